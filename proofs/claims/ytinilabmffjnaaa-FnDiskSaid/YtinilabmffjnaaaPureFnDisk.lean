/- The pure statement of the law FnDisk: what the printed functions compute answers true at every input. No conditions beyond the printed bounds. -/
import Derived.Test.YtinilabmffjnaaaQFnDiskx18
namespace Go.Proofs.Ytinilabmffjnaaa.Pure
open Go.RowKit Go.Proofs.Ytinilabmffjnaaa.PFnDisk Go.Proofs.YtinilabmffjnaaaW.PrintWords Go.Proofs.YtinilabmffjnaaaW.PrintLast Go.Proofs.YtinilabmffjnaaaW.PrintMore
set_option linter.unusedVariables false
set_option linter.unusedSimpArgs false

/-- The points that are right. -/
def ptOk (x y : Int) : Bool := decide (-10000000 ≤ x) && decide (x ≤ 10000000) && decide (-10000000 ≤ y) && decide (y ≤ 10000000)
/-- The boxes that are right. -/
def boxOk (a b c d : Int) : Bool := ptOk a b && ptOk c d && decide (a ≤ c) && decide (b ≤ d)
theorem ptOk_iff {x y : Int} : ptOk x y = true ↔ -10000000 ≤ x ∧ x ≤ 10000000 ∧ -10000000 ≤ y ∧ y ≤ 10000000 := by
  simp [ptOk, and_assoc]
theorem boxOk_iff {a b c d : Int} : boxOk a b c d = true ↔ (-10000000 ≤ a ∧ a ≤ 10000000 ∧ -10000000 ≤ b ∧ b ≤ 10000000) ∧ (-10000000 ≤ c ∧ c ≤ 10000000 ∧ -10000000 ≤ d ∧ d ≤ 10000000) ∧ a ≤ c ∧ b ≤ d := by
  simp [boxOk, ptOk_iff, and_assoc]
theorem wrap_in {x : Int} (h1 : -9223372036854775808 ≤ x) (h2 : x ≤ 9223372036854775807) : wrap64 x = x := by unfold wrap64; omega
theorem wrap_bounds (x : Int) : -9223372036854775808 ≤ wrap64 x ∧ wrap64 x ≤ 9223372036854775807 := by unfold wrap64; omega
theorem u64_in {x : Int} (h1 : 0 ≤ x) (h2 : x ≤ 18446744073709551615) : IntKind.u64.wrap x = x := by
  simp [IntKind.wrap, IntKind.bits, IntKind.signed]; omega
theorem u64_bounds (x : Int) : 0 ≤ IntKind.u64.wrap x ∧ IntKind.u64.wrap x ≤ 18446744073709551615 := by
  simp [IntKind.wrap, IntKind.bits, IntKind.signed]; omega
theorem u64_nonneg (x : Int) : 0 ≤ IntKind.u64.wrap x := (u64_bounds x).1
theorem mx_eq (a b : Int) : mx a b = max a b := by unfold mx; omega
theorem mn_eq (a b : Int) : mn a b = min a b := by unfold mn; omega
theorem spec_l1In_eq (a b c : Int) : spec_l1In.f a b c = some (decide (b ≤ a) && decide (a ≤ c)) := by
  unfold spec_l1In.f; by_cases h : b ≤ a <;> simp [h]
theorem impl_inRange_eq (a b c : Int) : impl_inRange.f a b c = some (decide (b ≤ a) && decide (a ≤ c)) := by
  unfold impl_inRange.f; by_cases h : b ≤ a <;> simp [h]
/-! The draws answer, whatever the bytes are. -/
def St (l : List Int) (i : Int) : Prop := 0 ≤ i ∧ i ≤ l.length
theorem and255 (x : Int) : 0 ≤ Go.bits .and .i64 x 255 ∧ Go.bits .and .i64 x 255 ≤ 255 := by
  have h : ((BitVec.ofInt 64 x &&& BitVec.ofInt 64 255).toNat) ≤ 255 := by
    rw [BitVec.toNat_and]
    exact Nat.le_trans Nat.and_le_right (by decide)
  have e : Go.bits .and .i64 x 255 = IntKind.i64.wrap ((BitVec.ofInt 64 x &&& BitVec.ofInt 64 255).toNat : Int) := rfl
  rw [e, IntKind.wrap_i64]
  generalize (BitVec.ofInt 64 x &&& BitVec.ofInt 64 255).toNat = m at h ⊢
  omega
theorem byte_ok {l : List Int} (hl : l.length ≤ 140737488351232) {i h : Int} (s : St l i) : ∃ b i' h', spec_l1Byte.f l i h = some (b, i', h') ∧ 0 ≤ b ∧ b ≤ 255 ∧ St l i' := by
  obtain ⟨s0, s1⟩ := s
  unfold spec_l1Byte.f
  by_cases c : i < (l.length : Int)
  · rw [if_pos c, if_pos s0]
    refine ⟨_, _, _, rfl, (and255 _).1, (and255 _).2, ?_⟩
    rw [wrap_in (by omega) (by omega)]; exact ⟨by omega, by omega⟩
  · rw [if_neg c]
    exact ⟨_, _, _, rfl, (and255 _).1, (and255 _).2, s0, s1⟩
theorem tmod_range {x n : Int} (h0 : 0 ≤ x) (hn : 0 < n) : 0 ≤ Int.tmod x n ∧ Int.tmod x n < n := by
  rw [Int.tmod_eq_emod_of_nonneg h0]
  exact ⟨Int.emod_nonneg _ (by omega), Int.emod_lt_of_pos _ hn⟩
theorem below_ok {l : List Int} (hl : l.length ≤ 140737488351232) {i h n : Int} (s : St l i) :
    ∃ x i' h', spec_l1Below.f l i h n = some (x, i', h') ∧ St l i' ∧ 0 ≤ x ∧ (0 < n → x < n) ∧ (n ≤ 0 → x = 0) := by
  unfold spec_l1Below.f
  by_cases c : n ≤ 0
  · rw [if_pos c]; exact ⟨_, _, _, rfl, s, by decide, by omega, fun _ => rfl⟩
  · rw [if_neg c]
    by_cases c2 : n ≤ 256
    · rw [if_pos c2]
      obtain ⟨b, i1, h1, e, b0, b1, s1⟩ := byte_ok hl (h := h) s
      rw [e]; simp only [Option.bind_some]; rw [if_neg (by omega)]
      have := tmod_range b0 (show 0 < n by omega)
      exact ⟨_, _, _, rfl, s1, this.1, fun _ => this.2, by omega⟩
    · rw [if_neg c2]
      obtain ⟨b, i1, h1, e, b0, b1, s1⟩ := byte_ok hl (h := h) s
      obtain ⟨b', i2, h2, e2, b0', b1', s2⟩ := byte_ok hl (h := h1) s1
      obtain ⟨b'', i3, h3, e3, b0'', b1'', s3⟩ := byte_ok hl (h := h2) s2
      rw [e]; simp only [Option.bind_some]; rw [e2]; simp only [Option.bind_some]; rw [e3]; simp only [Option.bind_some]; rw [if_neg (by omega)]
      have nn : 0 ≤ wrap64 (wrap64 (wrap64 (b * 65536) + wrap64 (b' * 256)) + b'') := by
        rw [wrap_in (x := b * 65536) (by omega) (by omega), wrap_in (x := b' * 256) (by omega) (by omega), wrap_in (x := b * 65536 + b' * 256) (by omega) (by omega), wrap_in (by omega) (by omega)]; omega
      have := tmod_range nn (show 0 < n by omega)
      exact ⟨_, _, _, rfl, s3, this.1, fun _ => this.2, by omega⟩
theorem once_ok {l : List Int} (hl : l.length ≤ 140737488351232) {i h : Int} (n : Int) (s : St l i) : ∃ b i' h', spec_l1Once.f l i h n = some (b, i', h') ∧ St l i' := by
  obtain ⟨x, i1, h1, e, s1, _⟩ := below_ok hl (h := h) (n := n) s
  unfold spec_l1Once.f; rw [e]; exact ⟨_, _, _, rfl, s1⟩
theorem int_ok {l : List Int} (hl : l.length ≤ 140737488351232) {i h : Int} (xs : List Int) (hx : 0 < xs.length) (s : St l i) : ∃ v i' h', spec_l1Int.f l i h xs = some (v, i', h') ∧ v ∈ xs ∧ St l i' := by
  obtain ⟨x, i1, h1, e, s1, x0, x1, _⟩ := below_ok hl (h := h) (n := (xs.length : Int)) s
  have hx1 := x1 (by omega)
  unfold spec_l1Int.f; rw [e]; simp only [Option.bind_some]; rw [if_pos x0, if_pos hx1]
  refine ⟨_, _, _, rfl, ?_, s1⟩
  unfold rd
  have hlt : x.toNat < xs.length := by omega
  rw [List.getD_eq_getElem?_getD, List.getElem?_eq_getElem hlt]
  exact List.getElem_mem hlt
theorem new_loop (l : List Int) (hl : l.length ≤ 140737488351232) : ∀ (d i k : Nat) (h : Int), i + d = l.length → d < k → ∃ h', spec_l1New.l0 k l h (i : Int) = some (l, 0, h') := by
  intro d
  induction d with
  | zero =>
    intro i k h hi hk
    obtain ⟨k, rfl⟩ : ∃ m, k = m + 1 := ⟨k - 1, by omega⟩
    simp only [spec_l1New.l0]; rw [if_neg (by omega)]; exact ⟨_, rfl⟩
  | succ d ih =>
    intro i k h hi hk
    obtain ⟨k, rfl⟩ : ∃ m, k = m + 1 := ⟨k - 1, by omega⟩
    simp only [spec_l1New.l0]; rw [if_pos (by omega)]
    by_cases c : (i : Int) < 4000
    · rw [if_pos c, if_pos (by omega), show wrap64 ((i : Int) + 1) = ((i + 1 : Nat) : Int) by rw [wrap_in (by omega) (by omega)]; omega]
      exact ih (i + 1) k _ (by omega) (by omega)
    · rw [if_neg c]; exact ⟨_, rfl⟩
theorem new_ok (l : List Int) (hl : l.length ≤ 140737488351232) {k : Nat} (hk : l.length < k) : ∃ h, spec_l1New.f k l = some (l, 0, h) := by
  unfold spec_l1New.f; exact new_loop l hl l.length 0 k _ (by omega) hk
theorem st0 (l : List Int) : St l 0 := ⟨by decide, by omega⟩
/-! Disks: rows of writes. -/
abbrev IW := S34
def vMax : List IW → Nat
  | [] => 0
  | r :: t => r.f1.length + 3 + vMax t
theorem vMax_le : ∀ (L : List IW) (i : Nat), (L.getD i z34).f1.length ≤ vMax L
  | [], i => by simp [z34]
  | r :: t, 0 => by simp [vMax]; omega
  | r :: t, i + 1 => by have := vMax_le t i; simp only [List.getD_cons_succ, vMax]; omega
theorem vMax_len : ∀ (L : List IW), L.length ≤ vMax L
  | [] => by simp [vMax]
  | r :: t => by have := vMax_len t; simp only [List.length_cons, vMax]; omega
theorem dropAt {α : Type} (z : α) : ∀ (l : List α) (i : Nat), i < l.length → l.drop i = l.getD i z :: l.drop (i + 1)
  | [], i, h => by simp at h
  | x :: r, 0, _ => rfl
  | x :: r, i + 1, h => by
    have := dropAt z r i (by simpa using h)
    simpa using this
theorem getDin {α : Type} (z : α) {l : List α} {i : Nat} (h : i < l.length) : l.getD i z ∈ l := by
  rw [List.getD_eq_getElem?_getD, List.getElem?_eq_getElem h]; exact List.getElem_mem h
theorem setRep {α β : Type} (f : α → β) (P : List α) (v z : β) (n : Nat) : (P.map f ++ List.replicate (n + 1) z).set P.length v = P.map f ++ v :: List.replicate n z := by
  rw [List.replicate_succ, ← List.length_map (f := f), List.set_append_right _ _ (Nat.le_refl _), Nat.sub_self]; rfl
theorem getDat {α : Type} (z : α) (P : List α) (r : α) (R : List α) : (P ++ r :: R).getD P.length z = r := by simp
def wOk (n : Nat) (x : IW) : Bool := decide (0 ≤ x.f0 ∧ x.f0 < (n : Int)) && decide (x.f1.length = 64)
def dOk (b : List Int) (L : List IW) : Bool := decide (b.length % 64 = 0 ∧ 64 ≤ b.length ∧ b.length ≤ 25600) && L.all (wOk (b.length / 64))
theorem specOk_loop (b : List Int) (hb : b.length ≤ 25600) (hb1 : 64 ≤ b.length) (L : List IW) (hL : L.length ≤ 140737488351232) : ∀ (d i k : Nat), i + d = L.length → d < k →
    spec_DiskOk.l0 k (i : Int) b L = some ((L.drop i).all (wOk (b.length / 64))) := by
  intro d
  induction d with
  | zero =>
    intro i k hi hk
    obtain ⟨k, rfl⟩ : ∃ m, k = m + 1 := ⟨k - 1, by omega⟩
    simp only [spec_DiskOk.l0]; rw [if_neg (by omega), List.drop_eq_nil_of_le (by omega)]; rfl
  | succ d ih =>
    intro i k hi hk
    obtain ⟨k, rfl⟩ : ∃ m, k = m + 1 := ⟨k - 1, by omega⟩
    simp only [spec_DiskOk.l0, spec_l11Many.f, spec_l1In_eq, Option.bind_some]
    have ex : rd_T34 L (i : Int) = L.getD i z34 := by unfold rd_T34; rw [Int.toNat_natCast]
    rw [if_pos (by omega), if_pos (by omega), ex, dropAt z34 L i (by omega), List.all_cons, wrap_in (x := (b.length : Int) / 64) (by omega) (by omega), wrap_in (x := (b.length : Int) / 64 - 1) (by omega) (by omega),
      show wrap64 ((i : Int) + 1) = ((i + 1 : Nat) : Int) by rw [wrap_in (by omega) (by omega)]; omega, ih (i + 1) k (by omega) (by omega)]
    generalize L.getD i z34 = x
    by_cases h1 : 0 ≤ x.f0 ∧ x.f0 < ((b.length / 64 : Nat) : Int)
    · have : (decide (0 ≤ x.f0) && decide (x.f0 ≤ (b.length : Int) / 64 - 1)) = true := by rw [Bool.and_eq_true, decide_eq_true_eq, decide_eq_true_eq]; omega
      rw [if_pos this]
      by_cases h2 : x.f1.length = 64
      · rw [if_pos (by omega)]; unfold wOk; rw [decide_eq_true h1, decide_eq_true h2]; simp
      · rw [if_neg (by omega)]; unfold wOk; rw [decide_eq_false h2]; simp
    · have : ¬ (decide (0 ≤ x.f0) && decide (x.f0 ≤ (b.length : Int) / 64 - 1)) = true := by rw [Bool.and_eq_true, decide_eq_true_eq, decide_eq_true_eq]; omega
      rw [if_neg this]; unfold wOk; rw [decide_eq_false h1]; simp
theorem specOk_eq (b : List Int) (L : List IW) (hb : b.length ≤ 140737488351232) (hL : L.length ≤ 140737488351232) {k : Nat} (hk : L.length + 2 < k) : spec_DiskOk.f k b L = some (dOk b L) := by
  obtain ⟨k, rfl⟩ : ∃ m, k = m + 1 := ⟨k - 1, by omega⟩
  unfold spec_DiskOk.f
  by_cases h : b.length % 64 = 0 ∧ 64 ≤ b.length ∧ b.length ≤ 25600
  · have hd : dOk b L = L.all (wOk (b.length / 64)) := by unfold dOk; rw [decide_eq_true h, Bool.true_and]
    have e := specOk_loop b h.2.2 h.2.1 L hL L.length 0 k (by omega) (by omega)
    rw [show ((0 : Nat) : Int) = 0 from rfl, List.drop_zero] at e
    have ht : (decide ((1 : Int) ≤ (b.length : Int) / 64) && decide ((b.length : Int) / 64 ≤ 400)) = true := by rw [Bool.and_eq_true, decide_eq_true_eq, decide_eq_true_eq]; omega
    rw [hd, if_pos (show ((b.length : Int) % 64) = 0 by omega)]
    rw [show spec_l11Many.f b L = some ((b.length : Int) / 64) by unfold spec_l11Many.f; rw [wrap_in (by omega) (by omega)]]
    rw [Option.bind_some, spec_l1In_eq, Option.bind_some, ht]
    unfold spec_DiskOk.j0
    exact e
  · have hd : dOk b L = false := by unfold dOk; rw [decide_eq_false h, Bool.false_and]
    rw [hd]
    by_cases h1 : b.length % 64 = 0
    · have ht : (decide ((1 : Int) ≤ (b.length : Int) / 64) && decide ((b.length : Int) / 64 ≤ 400)) = false := by rw [Bool.and_eq_false_iff, decide_eq_false_iff_not, decide_eq_false_iff_not]; omega
      rw [if_pos (show ((b.length : Int) % 64) = 0 by omega)]
      rw [show spec_l11Many.f b L = some ((b.length : Int) / 64) by unfold spec_l11Many.f; rw [wrap_in (by omega) (by omega)]]
      rw [Option.bind_some, spec_l1In_eq, Option.bind_some, ht]
      unfold spec_DiskOk.j0
      rfl
    · rw [if_neg (by omega)]
      simp only [spec_DiskOk.j0, if_true]
theorem implOk_loop (b : List Int) (hb : b.length ≤ 25600) (hb1 : 64 ≤ b.length) (L : List IW) (hL : L.length ≤ 140737488351232) : ∀ (d i k : Nat), i + d = L.length → d < k →
    impl_DiskOk.l0 k b L (L.length : Int) (i : Int) = some ((L.drop i).all (wOk (b.length / 64))) := by
  intro d
  induction d with
  | zero =>
    intro i k hi hk
    obtain ⟨k, rfl⟩ : ∃ m, k = m + 1 := ⟨k - 1, by omega⟩
    simp only [impl_DiskOk.l0]; rw [if_neg (by omega), List.drop_eq_nil_of_le (by omega)]; rfl
  | succ d ih =>
    intro i k hi hk
    obtain ⟨k, rfl⟩ : ∃ m, k = m + 1 := ⟨k - 1, by omega⟩
    simp only [impl_DiskOk.l0, impl_Disk_isSector.f, impl_Disk_sectors.f, impl_inRange_eq, Option.bind_some]
    have ex : rd_T34 L (i : Int) = L.getD i z34 := by unfold rd_T34; rw [Int.toNat_natCast]
    rw [if_pos (by omega), if_pos (by omega), if_pos (by omega), ex, dropAt z34 L i (by omega), List.all_cons, wrap_in (x := (b.length : Int) / 64) (by omega) (by omega), wrap_in (x := (b.length : Int) / 64 - 1) (by omega) (by omega),
      show wrap64 ((i : Int) + 1) = ((i + 1 : Nat) : Int) by rw [wrap_in (by omega) (by omega)]; omega, ih (i + 1) k (by omega) (by omega)]
    generalize L.getD i z34 = x
    by_cases h1 : 0 ≤ x.f0 ∧ x.f0 < ((b.length / 64 : Nat) : Int)
    · have : (decide (0 ≤ x.f0) && decide (x.f0 ≤ (b.length : Int) / 64 - 1)) = true := by rw [Bool.and_eq_true, decide_eq_true_eq, decide_eq_true_eq]; omega
      rw [if_pos this]
      by_cases h2 : x.f1.length = 64
      · rw [if_pos (by omega)]; unfold wOk; rw [decide_eq_true h1, decide_eq_true h2]; simp
      · rw [if_neg (by omega)]; unfold wOk; rw [decide_eq_false h2]; simp
    · have : ¬ (decide (0 ≤ x.f0) && decide (x.f0 ≤ (b.length : Int) / 64 - 1)) = true := by rw [Bool.and_eq_true, decide_eq_true_eq, decide_eq_true_eq]; omega
      rw [if_neg this]; unfold wOk; rw [decide_eq_false h1]; simp
theorem implOk_eq (b : List Int) (L : List IW) (hb : b.length ≤ 140737488351232) (hL : L.length ≤ 140737488351232) {k : Nat} (hk : L.length + 2 < k) : impl_DiskOk.f k b L = some (dOk b L) := by
  obtain ⟨k, rfl⟩ : ∃ m, k = m + 1 := ⟨k - 1, by omega⟩
  unfold impl_DiskOk.f
  by_cases h : b.length % 64 = 0 ∧ 64 ≤ b.length ∧ b.length ≤ 25600
  · have hd : dOk b L = L.all (wOk (b.length / 64)) := by unfold dOk; rw [decide_eq_true h, Bool.true_and]
    have e := implOk_loop b h.2.2 h.2.1 L hL L.length 0 k (by omega) (by omega)
    rw [show ((0 : Nat) : Int) = 0 from rfl, List.drop_zero] at e
    have ht : (decide ((1 : Int) ≤ (b.length : Int) / 64) && decide ((b.length : Int) / 64 ≤ 400)) = true := by rw [Bool.and_eq_true, decide_eq_true_eq, decide_eq_true_eq]; omega
    rw [hd, if_pos (show ((b.length : Int) % 64) = 0 by omega)]
    rw [show impl_Disk_sectors.f b = some ((b.length : Int) / 64) by unfold impl_Disk_sectors.f; rw [wrap_in (by omega) (by omega)]]
    rw [Option.bind_some, impl_inRange_eq, Option.bind_some, ht]
    unfold impl_DiskOk.j0
    exact e
  · have hd : dOk b L = false := by unfold dOk; rw [decide_eq_false h, Bool.false_and]
    rw [hd]
    by_cases h1 : b.length % 64 = 0
    · have ht : (decide ((1 : Int) ≤ (b.length : Int) / 64) && decide ((b.length : Int) / 64 ≤ 400)) = false := by rw [Bool.and_eq_false_iff, decide_eq_false_iff_not, decide_eq_false_iff_not]; omega
      rw [if_pos (show ((b.length : Int) % 64) = 0 by omega)]
      rw [show impl_Disk_sectors.f b = some ((b.length : Int) / 64) by unfold impl_Disk_sectors.f; rw [wrap_in (by omega) (by omega)]]
      rw [Option.bind_some, impl_inRange_eq, Option.bind_some, ht]
      unfold impl_DiskOk.j0
      rfl
    · rw [if_neg (by omega)]
      simp only [impl_DiskOk.j0, if_true]
theorem clone_eq (l : List Int) (h : l.length ≤ 140737488351232) : slices_Clone_byte_byte.f l = some l := by
  unfold slices_Clone_byte_byte.f
  rw [Option.bind_some, if_pos (by simp; omega), List.nil_append]
/-- What is read last of the writes to a sector; d without one. -/
def lastW (at_ : Int) (d : List Int) (L : List IW) : List Int := L.foldl (fun acc x => if x.f0 = at_ then x.f1 else acc) d
def secB (b : List Int) (at_ : Int) : List Int := (b.take ((at_ + 1) * 64).toNat).drop (at_ * 64).toNat
def rdOk (b : List Int) (L : List IW) (at_ : Int) : Bool := dOk b L && decide (0 ≤ at_ ∧ at_ < ((b.length / 64 : Nat) : Int))
def readM (b : List Int) (L : List IW) (at_ : Int) : List Int := if rdOk b L at_ = true then lastW at_ (secB b at_) L else []
theorem lastW_len (at_ : Int) (n : Nat) : ∀ (L : List IW) (d : List Int), d.length = 64 → L.all (wOk n) = true → (lastW at_ d L).length = 64
  | [], d, h, _ => h
  | x :: t, d, h, ha => by
    rw [List.all_cons, Bool.and_eq_true] at ha
    have hx : x.f1.length = 64 := by have := ha.1; unfold wOk at this; rw [Bool.and_eq_true, decide_eq_true_eq, decide_eq_true_eq] at this; exact this.2
    show (lastW at_ (if x.f0 = at_ then x.f1 else d) t).length = 64
    exact lastW_len at_ n t _ (by split <;> assumption) ha.2
theorem dOk_iff {b : List Int} {L : List IW} (h : dOk b L = true) : (b.length % 64 = 0 ∧ 64 ≤ b.length ∧ b.length ≤ 25600) ∧ L.all (wOk (b.length / 64)) = true := by
  unfold dOk at h
  rw [Bool.and_eq_true, decide_eq_true_eq] at h
  exact h
theorem rdOk_iff {b : List Int} {L : List IW} {at_ : Int} (h : rdOk b L at_ = true) : dOk b L = true ∧ 0 ≤ at_ ∧ at_ < ((b.length / 64 : Nat) : Int) := by
  unfold rdOk at h
  rw [Bool.and_eq_true, decide_eq_true_eq] at h
  exact h
theorem secB_len {b : List Int} {L : List IW} {at_ : Int} (h : rdOk b L at_ = true) : (secB b at_).length = 64 := by
  obtain ⟨h1, h2, h3⟩ := rdOk_iff h
  obtain ⟨⟨h4, h5, h6⟩, _⟩ := dOk_iff h1
  unfold secB
  rw [List.length_drop, List.length_take]
  omega
theorem readM_len (b : List Int) (L : List IW) (at_ : Int) : (readM b L at_).length ≤ 64 := by
  unfold readM
  by_cases h : rdOk b L at_ = true
  · rw [if_pos h]
    exact Nat.le_of_eq (lastW_len at_ _ L _ (secB_len h) (dOk_iff (rdOk_iff h).1).2)
  · rw [if_neg h]; simp
theorem wAll_len {n : Nat} {L : List IW} (h : L.all (wOk n) = true) : ∀ x ∈ L, x.f1.length = 64 := fun x hx => by
  have := List.all_eq_true.1 h x hx
  unfold wOk at this
  rw [Bool.and_eq_true, decide_eq_true_eq, decide_eq_true_eq] at this
  exact this.2
theorem lastW_snoc (at_ : Int) (d : List Int) (L : List IW) (x : IW) : lastW at_ d (L ++ [x]) = if x.f0 = at_ then x.f1 else lastW at_ d L := by
  unfold lastW; rw [List.foldl_append]; rfl
theorem implRead_loop (b : List Int) (at_ : Int) (L : List IW) (hL : L.length ≤ 140737488351232) (hr : ∀ x ∈ L, x.f1.length = 64) (h0 : 0 ≤ at_) (h1 : at_ < ((b.length / 64 : Nat) : Int)) (hb : b.length ≤ 25600) : ∀ (n : Nat) (k : Nat), n ≤ L.length → n < k →
    impl_ReadSector.l0 k at_ ((n : Int) - 1) b L = some (lastW at_ (secB b at_) (L.take n), true) := by
  intro n
  induction n with
  | zero =>
    intro k hn hk
    obtain ⟨k, rfl⟩ : ∃ m, k = m + 1 := ⟨k - 1, by omega⟩
    simp only [impl_ReadSector.l0]
    have hs : (secB b at_).length ≤ 140737488351232 := by unfold secB; rw [List.length_drop, List.length_take]; omega
    rw [if_neg (by omega), show wrap64 (at_ * 64) = at_ * 64 from wrap_in (by omega) (by omega), show wrap64 (at_ + 1) = at_ + 1 from wrap_in (by omega) (by omega), show wrap64 ((at_ + 1) * 64) = (at_ + 1) * 64 from wrap_in (by omega) (by omega),
      if_pos (by omega), if_pos (by omega), if_pos (by omega)]
    rw [show slices_Clone_byte_byte.f (List.drop (at_ * 64).toNat (List.take ((at_ + 1) * 64).toNat b)) = some (secB b at_) from clone_eq _ hs]
    rfl
  | succ n ih =>
    intro k hn hk
    obtain ⟨k, rfl⟩ : ∃ m, k = m + 1 := ⟨k - 1, by omega⟩
    simp only [impl_ReadSector.l0]
    have ei : (((n + 1 : Nat) : Int) - 1) = (n : Int) := by omega
    have ex : rd_T34 L (n : Int) = L.getD n z34 := by unfold rd_T34; rw [Int.toNat_natCast]
    have h64 := hr _ (getDin (z := z34) (show n < L.length by omega))
    have et : L.take (n + 1) = L.take n ++ [L.getD n z34] := by
      rw [List.take_add_one, List.getD_eq_getElem?_getD, List.getElem?_eq_getElem (show n < L.length by omega)]; rfl
    rw [ei, if_pos (by omega), if_pos (by omega), if_pos (by omega), ex, et, lastW_snoc]
    by_cases h : (L.getD n z34).f0 = at_
    · rw [if_pos h, if_pos h, clone_eq _ (by omega)]; rfl
    · rw [if_neg h, if_neg h, show wrap64 ((n : Int) - 1) = (n : Int) - 1 from wrap_in (by omega) (by omega), ih k (by omega) (by omega)]
theorem implRead_eq (b : List Int) (L : List IW) (at_ : Int) (hb : b.length ≤ 140737488351232) (hL : L.length ≤ 140737488351232) {k : Nat} (hk : L.length + 3 < k) :
    impl_ReadSector.f k b L at_ = some (readM b L at_, rdOk b L at_) := by
  obtain ⟨k, rfl⟩ : ∃ m, k = m + 1 := ⟨k - 1, by omega⟩
  unfold impl_ReadSector.f
  have hi : impl_Disk_isSector.f b at_ = some (decide (0 ≤ at_) && decide (at_ ≤ (b.length : Int) / 64 - 1)) := by
    unfold impl_Disk_isSector.f
    rw [show impl_Disk_sectors.f b = some ((b.length : Int) / 64) by unfold impl_Disk_sectors.f; rw [wrap_in (by omega) (by omega)], Option.bind_some, impl_inRange_eq, Option.bind_some, show wrap64 ((b.length : Int) / 64 - 1) = (b.length : Int) / 64 - 1 from wrap_in (by omega) (by omega)]
  rw [hi, Option.bind_some]
  by_cases h2 : 0 ≤ at_ ∧ at_ < ((b.length / 64 : Nat) : Int)
  · have ht : (decide (0 ≤ at_) && decide (at_ ≤ (b.length : Int) / 64 - 1)) = true := by rw [Bool.and_eq_true, decide_eq_true_eq, decide_eq_true_eq]; omega
    rw [ht, if_pos rfl, implOk_eq b L hb hL (by omega), Option.bind_some]
    by_cases h1 : dOk b L = true
    · obtain ⟨⟨h4, h5, h6⟩, h7⟩ := dOk_iff h1
      have hr : rdOk b L at_ = true := by unfold rdOk; rw [h1, decide_eq_true h2]; rfl
      rw [h1, show readM b L at_ = lastW at_ (secB b at_) L from by unfold readM; rw [if_pos hr], hr]
      rw [impl_ReadSector.j0]
      rw [if_neg (by decide), show wrap64 ((L.length : Int) - 1) = (L.length : Int) - 1 from wrap_in (by omega) (by omega)]
      have e := implRead_loop b at_ L hL (wAll_len h7) h2.1 h2.2 h6 L.length k (Nat.le_refl _) (by omega)
      rw [List.take_length] at e
      exact e
    · have hr : rdOk b L at_ = false := by unfold rdOk; rw [Bool.eq_false_iff.2 h1, Bool.false_and]
      rw [Bool.eq_false_iff.2 h1, show readM b L at_ = [] from by unfold readM; rw [if_neg (by rw [hr]; decide)], hr]
      rw [impl_ReadSector.j0]
      rw [if_pos (by decide)]
  · have hr : rdOk b L at_ = false := by unfold rdOk; rw [decide_eq_false h2, Bool.and_false]
    have ht : (decide (0 ≤ at_) && decide (at_ ≤ (b.length : Int) / 64 - 1)) = false := by rw [Bool.and_eq_false_iff, decide_eq_false_iff_not, decide_eq_false_iff_not]; omega
    rw [ht, if_neg (by decide), show readM b L at_ = [] from by unfold readM; rw [if_neg (by rw [hr]; decide)], hr]
    rw [impl_ReadSector.j0]
    rw [if_pos rfl]
theorem implCopy_loop (L : List IW) (hL : L.length ≤ 1048576) (hr : ∀ x ∈ L, x.f1.length ≤ 1048576) (b : List Int) : ∀ (d i k : Nat), i + d = L.length → d < k →
    impl_copyDisk.l0 k L (L.length : Int) (i : Int) b (L.take i) = some (b, L) := by
  intro d
  induction d with
  | zero =>
    intro i k hi hk
    obtain ⟨k, rfl⟩ : ∃ m, k = m + 1 := ⟨k - 1, by omega⟩
    rw [impl_copyDisk.l0, if_neg (by omega), List.take_of_length_le (by omega)]
  | succ d ih =>
    intro i k hi hk
    obtain ⟨k, rfl⟩ : ∃ m, k = m + 1 := ⟨k - 1, by omega⟩
    have ex : rd_T34 L (i : Int) = L.getD i z34 := by unfold rd_T34; rw [Int.toNat_natCast]
    have h1 := hr _ (getDin (z := z34) (show i < L.length by omega))
    have et : L.take i ++ [(⟨(L.getD i z34).f0, (L.getD i z34).f1⟩ : IW)] = L.take (i + 1) := by
      rw [List.take_add_one, List.getD_eq_getElem?_getD, List.getElem?_eq_getElem (show i < L.length by omega)]; rfl
    rw [impl_copyDisk.l0, if_pos (by omega), if_pos (by omega), if_pos (by omega), ex, clone_eq _ (by omega), Option.bind_some, if_pos (by rw [List.length_take]; omega), et,
      show wrap64 ((i : Int) + 1) = ((i + 1 : Nat) : Int) by rw [wrap_in (by omega) (by omega)]; omega]
    exact ih (i + 1) k (by omega) (by omega)
theorem implCopy_eq (b : List Int) (L : List IW) (hb : b.length ≤ 1048576) (hL : L.length ≤ 1048576) (hr : ∀ x ∈ L, x.f1.length ≤ 1048576) {k : Nat} (hk : L.length < k) : impl_copyDisk.f k b L = some (b, L) := by
  unfold impl_copyDisk.f
  rw [clone_eq b (by omega), Option.bind_some]
  have e := implCopy_loop L hL hr b L.length 0 k (by omega) hk
  rw [show ((0 : Nat) : Int) = 0 from rfl, List.take_zero] at e
  exact e
theorem specCopy_loop (L : List IW) (hL : L.length ≤ 1048576) (hr : ∀ x ∈ L, x.f1.length ≤ 1048576) (c b : List Int) : ∀ (d i k : Nat), i + d = L.length → d < k →
    spec_l11Copy.l0 k (i : Int) c L b (L.take i) = some (b, L) := by
  intro d
  induction d with
  | zero =>
    intro i k hi hk
    obtain ⟨k, rfl⟩ : ∃ m, k = m + 1 := ⟨k - 1, by omega⟩
    rw [spec_l11Copy.l0, if_neg (by omega), List.take_of_length_le (by omega)]
  | succ d ih =>
    intro i k hi hk
    obtain ⟨k, rfl⟩ : ∃ m, k = m + 1 := ⟨k - 1, by omega⟩
    have ex : rd_T34 L (i : Int) = L.getD i z34 := by unfold rd_T34; rw [Int.toNat_natCast]
    have h1 := hr _ (getDin (z := z34) (show i < L.length by omega))
    have et : L.take i ++ [(⟨(L.getD i z34).f0, (L.getD i z34).f1⟩ : IW)] = L.take (i + 1) := by
      rw [List.take_add_one, List.getD_eq_getElem?_getD, List.getElem?_eq_getElem (show i < L.length by omega)]; rfl
    rw [spec_l11Copy.l0, if_pos (by omega), if_pos (by omega), Option.bind_some, ex, if_pos (show ([] : List Int).length + (L.getD i z34).f1.length < 140737488355328 from by rw [List.length_nil]; omega), if_pos (by rw [List.length_take]; omega), List.nil_append, et,
      show wrap64 ((i : Int) + 1) = ((i + 1 : Nat) : Int) by rw [wrap_in (by omega) (by omega)]; omega]
    exact ih (i + 1) k (by omega) (by omega)
theorem specCopy_eq (b : List Int) (L : List IW) (hb : b.length ≤ 1048576) (hL : L.length ≤ 1048576) (hr : ∀ x ∈ L, x.f1.length ≤ 1048576) {k : Nat} (hk : L.length < k) : spec_l11Copy.f k b L = some (b, L) := by
  unfold spec_l11Copy.f
  rw [Option.bind_some, if_pos (show ([] : List Int).length + b.length < 140737488355328 from by rw [List.length_nil]; omega), List.nil_append]
  have e := specCopy_loop L hL hr b b L.length 0 k (by omega) hk
  rw [show ((0 : Nat) : Int) = 0 from rfl, List.take_zero] at e
  exact e
def wrOk (b : List Int) (L : List IW) (at_ : Int) (data : List Int) : Bool := rdOk b L at_ && decide (data.length = 64)
def wrQ (b : List Int) (L : List IW) (at_ : Int) (data : List Int) : List IW := if wrOk b L at_ data = true then L ++ [⟨at_, data⟩] else L
theorem specWrite_eq (b : List Int) (L : List IW) (at_ : Int) (data : List Int) (hb : b.length ≤ 1048576) (hL : L.length ≤ 1048576) (hr : ∀ x ∈ L, x.f1.length ≤ 1048576) {k : Nat} (hk : L.length + 3 < k) :
    spec_WriteSector.f k b L at_ data = some (b, wrQ b L at_ data, wrOk b L at_ data) := by
  unfold spec_WriteSector.f
  rw [specCopy_eq b L hb hL hr (by omega), Option.bind_some, specOk_eq b L (by omega) (by omega) (by omega), Option.bind_some]
  by_cases h1 : dOk b L = true
  · obtain ⟨⟨h4, h5, h6⟩, h7⟩ := dOk_iff h1
    rw [if_pos h1, show spec_l11Many.f b L = some ((b.length : Int) / 64) by unfold spec_l11Many.f; rw [wrap_in (by omega) (by omega)], Option.bind_some, spec_l1In_eq, Option.bind_some,
      show wrap64 ((b.length : Int) / 64 - 1) = (b.length : Int) / 64 - 1 from wrap_in (by omega) (by omega)]
    by_cases h2 : 0 ≤ at_ ∧ at_ < ((b.length / 64 : Nat) : Int)
    · have ht : (decide (0 ≤ at_) && decide (at_ ≤ (b.length : Int) / 64 - 1)) = true := by rw [Bool.and_eq_true, decide_eq_true_eq, decide_eq_true_eq]; omega
      have hr1 : rdOk b L at_ = true := by unfold rdOk; rw [h1, decide_eq_true h2]; rfl
      rw [ht, if_pos rfl]
      by_cases h3 : data.length = 64
      · have hw : wrOk b L at_ data = true := by unfold wrOk; rw [hr1, decide_eq_true h3]; rfl
        rw [if_pos (by omega), Option.bind_some, if_pos (show ([] : List Int).length + data.length < 140737488355328 from by rw [List.length_nil]; omega), if_pos (show L.length < 4398046511104 by omega), List.nil_append,
          show wrQ b L at_ data = L ++ [⟨at_, data⟩] from by unfold wrQ; rw [if_pos hw], hw]
      · have hw : wrOk b L at_ data = false := by unfold wrOk; rw [decide_eq_false h3, Bool.and_false]
        rw [if_neg (by omega), show wrQ b L at_ data = L from by unfold wrQ; rw [if_neg (by rw [hw]; decide)], hw]
    · have ht : (decide (0 ≤ at_) && decide (at_ ≤ (b.length : Int) / 64 - 1)) = false := by rw [Bool.and_eq_false_iff, decide_eq_false_iff_not, decide_eq_false_iff_not]; omega
      have hr1 : rdOk b L at_ = false := by unfold rdOk; rw [decide_eq_false h2, Bool.and_false]
      have hw : wrOk b L at_ data = false := by unfold wrOk; rw [hr1, Bool.false_and]
      rw [ht, if_neg (by decide), show wrQ b L at_ data = L from by unfold wrQ; rw [if_neg (by rw [hw]; decide)], hw]
  · have hr1 : rdOk b L at_ = false := by unfold rdOk; rw [Bool.eq_false_iff.2 h1, Bool.false_and]
    have hw : wrOk b L at_ data = false := by unfold wrOk; rw [hr1, Bool.false_and]
    rw [if_neg h1, show wrQ b L at_ data = L from by unfold wrQ; rw [if_neg (by rw [hw]; decide)], hw]
def sy1 (b : List Int) (x : IW) : List Int := spl b (x.f0 * 64).toNat x.f1
def syB (b : List Int) (L : List IW) : List Int := L.foldl sy1 b
def syM (b : List Int) (L : List IW) : List Int := if dOk b L = true then syB b L else b
def syQ (b : List Int) (L : List IW) : List IW := if dOk b L = true then [] else L
def wIn (n : Nat) (x : IW) : Prop := 0 ≤ x.f0 ∧ x.f0 * 64 + 64 ≤ (n : Int) ∧ x.f1.length = 64
theorem wIn_of {n : Nat} {x : IW} (h : wOk (n / 64) x = true) : wIn n x := by
  unfold wOk at h
  rw [Bool.and_eq_true, decide_eq_true_eq, decide_eq_true_eq] at h
  obtain ⟨⟨h1, h2⟩, h3⟩ := h
  exact ⟨h1, by omega, h3⟩
theorem sy1_len {b : List Int} {x : IW} (h : wIn b.length x) : (sy1 b x).length = b.length := by
  obtain ⟨h1, h2, h3⟩ := h
  unfold sy1 spl
  rw [List.length_append, List.length_append, List.length_take, List.length_drop]
  omega
theorem syB_len : ∀ (L : List IW) (b : List Int), (∀ x ∈ L, wIn b.length x) → (syB b L).length = b.length
  | [], b, _ => rfl
  | x :: L, b, h => by
    have hx := sy1_len (h x (by simp))
    show (syB (sy1 b x) L).length = _
    rw [syB_len L (sy1 b x) (fun y hy => by rw [hx]; exact h y (by simp [hy])), hx]
theorem wAll_in {b : List Int} {L : List IW} (h : L.all (wOk (b.length / 64)) = true) : ∀ x ∈ L, wIn b.length x := fun x hx => wIn_of (List.all_eq_true.1 h x hx)
theorem syM_len (b : List Int) (L : List IW) : (syM b L).length = b.length := by
  unfold syM
  split
  · rename_i h; exact syB_len L b (wAll_in (dOk_iff h).2)
  · rfl
theorem syQ_sub (b : List Int) (L : List IW) : ∀ x ∈ syQ b L, x ∈ L := by
  unfold syQ; split
  · intro x hx; cases hx
  · exact fun x hx => hx
theorem syQ_len (b : List Int) (L : List IW) : (syQ b L).length ≤ L.length := by
  unfold syQ; split
  · exact Nat.zero_le _
  · exact Nat.le_refl _
theorem syQ_vMax (b : List Int) (L : List IW) : vMax (syQ b L) ≤ vMax L := by
  unfold syQ; split
  · exact Nat.zero_le _
  · exact Nat.le_refl _
theorem specSync_loop (L : List IW) (hL : L.length ≤ 1048577) (n : Nat) (hn : n ≤ 25600) (hin : ∀ x ∈ L, wIn n x) (c : List Int) : ∀ (d i k : Nat) (b : List Int) (Q : List IW), b.length = n → i + d = L.length → d < k →
    spec_Sync.l0 k (i : Int) c L b Q = some (syB b (L.drop i), []) := by
  intro d
  induction d with
  | zero =>
    intro i k b Q hb hi hk
    obtain ⟨k, rfl⟩ : ∃ m, k = m + 1 := ⟨k - 1, by omega⟩
    rw [spec_Sync.l0, if_neg (by omega), List.drop_eq_nil_of_le (by omega)]; rfl
  | succ d ih =>
    intro i k b Q hb hi hk
    obtain ⟨k, rfl⟩ : ∃ m, k = m + 1 := ⟨k - 1, by omega⟩
    have ex : rd_T34 L (i : Int) = L.getD i z34 := by unfold rd_T34; rw [Int.toNat_natCast]
    have hx := hin _ (getDin (z := z34) (show i < L.length by omega))
    have hl1 := sy1_len (b := b) (x := L.getD i z34) (by rw [hb]; exact hx)
    obtain ⟨h1, h2, h3⟩ := hx
    rw [spec_Sync.l0, if_pos (by omega), if_pos (by omega), ex, dropAt z34 L i (by omega)]
    show _ = some (syB (sy1 b (L.getD i z34)) (L.drop (i + 1)), [])
    generalize L.getD i z34 = x at h1 h2 h3 hl1 ⊢
    rw [show wrap64 (x.f0 * 64) = x.f0 * 64 from wrap_in (by omega) (by omega), if_pos (by omega), if_pos (by omega), show wrap64 ((i : Int) + 1) = ((i + 1 : Nat) : Int) by rw [wrap_in (by omega) (by omega)]; omega]
    exact ih (i + 1) k (sy1 b x) Q (by omega) (by omega) (by omega)
theorem specSync_eq (b : List Int) (L : List IW) (hb : b.length ≤ 1048576) (hL : L.length ≤ 1048576) (hr : ∀ x ∈ L, x.f1.length ≤ 1048576) {k : Nat} (hk : L.length + 3 < k) : spec_Sync.f k b L = some (syM b L, syQ b L) := by
  unfold spec_Sync.f syM syQ
  rw [specCopy_eq b L hb hL hr (by omega), Option.bind_some, specOk_eq b L (by omega) (by omega) (by omega), Option.bind_some]
  by_cases h : dOk b L = true
  · obtain ⟨⟨h4, h5, h6⟩, h7⟩ := dOk_iff h
    rw [if_pos h, if_pos h, if_pos h]
    have e := specSync_loop L (by omega) b.length (by omega) (wAll_in h7) b L.length 0 k b L rfl (by omega) (by omega)
    rw [show ((0 : Nat) : Int) = 0 from rfl, List.drop_zero] at e
    exact e
  · rw [if_neg h, if_neg h, if_neg h]
theorem implSync_loop (L : List IW) (hL : L.length ≤ 1048577) (n : Nat) (hn : n ≤ 25600) (hin : ∀ x ∈ L, wIn n x) : ∀ (d i k : Nat) (b : List Int), b.length = n → i + d = L.length → d < k →
    impl_doneS.l0 k L (L.length : Int) (i : Int) b = some (syB b (L.drop i), []) := by
  intro d
  induction d with
  | zero =>
    intro i k b hb hi hk
    obtain ⟨k, rfl⟩ : ∃ m, k = m + 1 := ⟨k - 1, by omega⟩
    rw [impl_doneS.l0, if_neg (by omega), List.drop_eq_nil_of_le (by omega)]; rfl
  | succ d ih =>
    intro i k b hb hi hk
    obtain ⟨k, rfl⟩ : ∃ m, k = m + 1 := ⟨k - 1, by omega⟩
    have ex : rd_T34 L (i : Int) = L.getD i z34 := by unfold rd_T34; rw [Int.toNat_natCast]
    have hx := hin _ (getDin (z := z34) (show i < L.length by omega))
    have hl1 := sy1_len (b := b) (x := L.getD i z34) (by rw [hb]; exact hx)
    obtain ⟨h1, h2, h3⟩ := hx
    rw [impl_doneS.l0, if_pos (by omega), if_pos (by omega), if_pos (by omega), show impl_SyncOne.f (i : Int) = some true from rfl, Option.bind_some, if_pos rfl, ex, dropAt z34 L i (by omega)]
    show _ = some (syB (sy1 b (L.getD i z34)) (L.drop (i + 1)), [])
    generalize L.getD i z34 = x at h1 h2 h3 hl1 ⊢
    rw [show wrap64 (x.f0 * 64) = x.f0 * 64 from wrap_in (by omega) (by omega), if_pos (by omega), if_pos (by omega), show wrap64 ((i : Int) + 1) = ((i + 1 : Nat) : Int) by rw [wrap_in (by omega) (by omega)]; omega]
    exact ih (i + 1) k (sy1 b x) (by omega) (by omega) (by omega)
theorem implSync_eq (b : List Int) (L : List IW) (hb : b.length ≤ 1048576) (hL : L.length ≤ 1048576) (hr : ∀ x ∈ L, x.f1.length ≤ 1048576) {k : Nat} (hk : L.length + 3 < k) : impl_Sync.f k b L = some (syM b L, syQ b L) := by
  unfold impl_Sync.f syM syQ
  rw [implOk_eq b L (by omega) (by omega) (by omega), Option.bind_some]
  by_cases h : dOk b L = true
  · obtain ⟨⟨h4, h5, h6⟩, h7⟩ := dOk_iff h
    rw [if_pos h, if_pos h, if_pos h]
    have e := implSync_loop L (by omega) b.length (by omega) (wAll_in h7) L.length 0 k b rfl (by omega) (by omega)
    rw [show ((0 : Nat) : Int) = 0 from rfl, List.drop_zero] at e
    rw [show impl_doneS.f k b L = some (syB b L, []) from by unfold impl_doneS.f; rw [clone_eq b (by omega), Option.bind_some]; exact e, Option.bind_some]
  · rw [if_neg h, if_neg h, if_neg h, implCopy_eq b L hb hL hr (by omega), Option.bind_some]
def cn (c : List Int) (i : Nat) : Bool := decide (i / 8 < c.length) && (Go.bits .and .u8 (shr .u8 (rd c ((i / 8 : Nat) : Int)) ((i % 8 : Nat) : Int)) 1 == 1)
theorem tdiv8 (i : Nat) : Int.tdiv ((i : Nat) : Int) 8 = ((i / 8 : Nat) : Int) := rfl
theorem tmod8 (i : Nat) : Int.tmod ((i : Nat) : Int) 8 = ((i % 8 : Nat) : Int) := rfl
theorem w8 (i : Nat) (hi : i ≤ 4294967296) : wrap64 ((i / 8 : Nat) : Int) = ((i / 8 : Nat) : Int) := wrap_in (by omega) (by omega)
theorem u8 (i : Nat) : IntKind.u64.wrap ((i % 8 : Nat) : Int) = ((i % 8 : Nat) : Int) := u64_in (by omega) (by omega)
theorem wS (i : Nat) (hi : i ≤ 4294967296) : wrap64 ((i : Int) + 1) = ((i + 1 : Nat) : Int) := by rw [wrap_in (by omega) (by omega)]; omega
theorem crashOne_eq (c : List Int) (i : Nat) (hi : i ≤ 4294967296) : impl_CrashOne.f (i : Int) c = some (cn c i) := by
  unfold impl_CrashOne.f cn
  rw [tdiv8, tmod8, w8 i hi, u8 i]
  by_cases h : i / 8 < c.length
  · rw [if_pos (by omega), if_pos (by omega), if_pos (by omega), decide_eq_true h, Bool.true_and]
  · rw [if_neg (by omega), decide_eq_false h, Bool.false_and]
def kp (c : List Int) : Nat → List IW → List IW
  | _, [] => []
  | i, x :: L => if cn c i = true then x :: kp c (i + 1) L else kp c (i + 1) L
theorem kp_sub (c : List Int) : ∀ (L : List IW) (i : Nat), ∀ x ∈ kp c i L, x ∈ L
  | [], _, x, h => by cases h
  | y :: L, i, x, h => by
    unfold kp at h
    split at h
    · rcases List.mem_cons.1 h with rfl | h2
      · simp
      · exact List.mem_cons_of_mem _ (kp_sub c L (i + 1) x h2)
    · exact List.mem_cons_of_mem _ (kp_sub c L (i + 1) x h)
theorem kp_len (c : List Int) : ∀ (L : List IW) (i : Nat), (kp c i L).length ≤ L.length
  | [], _ => Nat.le_refl _
  | y :: L, i => by
    have := kp_len c L (i + 1)
    unfold kp
    split
    · simp only [List.length_cons]; omega
    · simp only [List.length_cons]; omega
def crM (b : List Int) (c : List Int) (L : List IW) : List Int := if dOk b L = true then syB b (kp c 0 L) else b
theorem crM_len (b c : List Int) (L : List IW) : (crM b c L).length = b.length := by
  unfold crM
  split
  · rename_i h; exact syB_len _ b (fun x hx => wAll_in (dOk_iff h).2 x (kp_sub c L 0 x hx))
  · rfl
theorem dOk_kp {b : List Int} {L : List IW} (h : dOk b L = true) (c : List Int) (i : Nat) : dOk b (kp c i L) = true := by
  unfold dOk at h ⊢
  rw [Bool.and_eq_true] at h ⊢
  exact ⟨h.1, List.all_eq_true.2 fun x hx => List.all_eq_true.1 h.2 x (kp_sub c L i x hx)⟩
theorem implCrash_loop (L : List IW) (hL : L.length ≤ 1048577) (n : Nat) (hn : n ≤ 25600) (hin : ∀ x ∈ L, wIn n x) (c : List Int) : ∀ (d i k : Nat) (b : List Int), b.length = n → i + d = L.length → d < k →
    impl_done.l0 k c L (L.length : Int) (i : Int) b = some (syB b (kp c i (L.drop i)), []) := by
  intro d
  induction d with
  | zero =>
    intro i k b hb hi hk
    obtain ⟨k, rfl⟩ : ∃ m, k = m + 1 := ⟨k - 1, by omega⟩
    rw [impl_done.l0, if_neg (by omega), List.drop_eq_nil_of_le (by omega)]; rfl
  | succ d ih =>
    intro i k b hb hi hk
    obtain ⟨k, rfl⟩ : ∃ m, k = m + 1 := ⟨k - 1, by omega⟩
    have ex : rd_T34 L (i : Int) = L.getD i z34 := by unfold rd_T34; rw [Int.toNat_natCast]
    have hx := hin _ (getDin (z := z34) (show i < L.length by omega))
    have hl1 := sy1_len (b := b) (x := L.getD i z34) (by rw [hb]; exact hx)
    obtain ⟨h1, h2, h3⟩ := hx
    rw [impl_done.l0, if_pos (by omega), if_pos (by omega), if_pos (by omega), crashOne_eq c i (by omega), Option.bind_some, ex, dropAt z34 L i (by omega)]
    simp only [wS i (show i ≤ 4294967296 by omega)]
    generalize L.getD i z34 = x at h1 h2 h3 hl1 ⊢
    have hk1 : kp c i (x :: L.drop (i + 1)) = if cn c i = true then x :: kp c (i + 1) (L.drop (i + 1)) else kp c (i + 1) (L.drop (i + 1)) := rfl
    rw [hk1]
    by_cases hc : cn c i = true
    · rw [if_pos hc, if_pos hc]
      simp only [show wrap64 (x.f0 * 64) = x.f0 * 64 from wrap_in (by omega) (by omega)]
      rw [if_pos (by omega), if_pos (by omega)]
      exact ih (i + 1) k (sy1 b x) (by omega) (by omega) (by omega)
    · rw [if_neg hc, if_neg hc]
      exact ih (i + 1) k b hb (by omega) (by omega)
theorem implCrash_eq (b : List Int) (L : List IW) (c : List Int) (hb : b.length ≤ 1048576) (hL : L.length ≤ 1048576) (hr : ∀ x ∈ L, x.f1.length ≤ 1048576) {k : Nat} (hk : L.length + 3 < k) : impl_Crash.f k b L c = some (crM b c L, syQ b L) := by
  unfold impl_Crash.f crM syQ
  rw [implOk_eq b L (by omega) (by omega) (by omega), Option.bind_some]
  by_cases h : dOk b L = true
  · obtain ⟨⟨h4, h5, h6⟩, h7⟩ := dOk_iff h
    rw [if_pos h, if_pos h, if_pos h]
    have e := implCrash_loop L (by omega) b.length (by omega) (wAll_in h7) c L.length 0 k b rfl (by omega) (by omega)
    rw [show ((0 : Nat) : Int) = 0 from rfl, List.drop_zero] at e
    rw [show impl_done.f k b L c = some (syB b (kp c 0 L), []) from by unfold impl_done.f; rw [clone_eq b (by omega), Option.bind_some]; exact e, Option.bind_some]
  · rw [if_neg h, if_neg h, if_neg h, implCopy_eq b L hb hL hr (by omega), Option.bind_some]
theorem same_loop (l m : List Int) (he : l.length = m.length) (hl : l.length ≤ 140737488351232) : ∀ (d i f : Nat), i + d = l.length → d < f → laws_sameBytes.l0 f l m (i : Int) = some (decide (l.drop i = m.drop i)) := by
  intro d
  induction d with
  | zero =>
    intro i f hi hf
    obtain ⟨f, rfl⟩ : ∃ m, f = m + 1 := ⟨f - 1, by omega⟩
    simp only [laws_sameBytes.l0]; rw [if_neg (by omega), List.drop_eq_nil_of_le (by omega), List.drop_eq_nil_of_le (by omega)]; simp
  | succ d ih =>
    intro i f hi hf
    obtain ⟨f, rfl⟩ : ∃ m, f = m + 1 := ⟨f - 1, by omega⟩
    simp only [laws_sameBytes.l0]
    have el : rd l (i : Int) = l.getD i 0 := by unfold rd; rw [Int.toNat_natCast]
    have em : rd m (i : Int) = m.getD i 0 := by unfold rd; rw [Int.toNat_natCast]
    rw [if_pos (by omega), if_pos (by omega), if_pos (by omega), dropAt 0 l i (by omega), dropAt 0 m i (by omega)]
    by_cases h : l.getD i 0 = m.getD i 0
    · rw [if_pos (show rd l (i : Int) = rd m (i : Int) by rw [el, em]; exact h), show wrap64 ((i : Int) + 1) = ((i + 1 : Nat) : Int) by rw [wrap_in (by omega) (by omega)]; omega, ih (i + 1) f (by omega) (by omega), h]; simp
    · rw [if_neg (show ¬ rd l (i : Int) = rd m (i : Int) by rw [el, em]; exact h), decide_eq_false (fun q => h (List.cons.inj q).1)]
theorem same_dec (l m : List Int) (hl : l.length ≤ 140737488351232) {f : Nat} (hf : l.length < f) : laws_sameBytes.f f l m = some (decide (l = m)) := by
  unfold laws_sameBytes.f
  by_cases h : l.length = m.length
  · rw [if_pos (by omega)]
    have e := same_loop l m h hl l.length 0 f (by omega) hf
    simpa using e
  · rw [if_neg (by omega), decide_eq_false (fun q => h (by rw [q]))]
theorem bytes_loop {l : List Int} (hl : l.length ≤ 140737488351232) (n : Nat) (hn : n ≤ 1000) : ∀ (d j k : Nat) (acc : List Int) (i h : Int), St l i → j + d = n → acc.length = j → d < k →
    ∃ xs i' h', spec_l1Bytes.l0 k (n : Int) acc (j : Int) l i h = some (xs, i', h') ∧ xs.length = n ∧ St l i' := by
  intro d
  induction d with
  | zero =>
    intro j k acc i h s hj ha hk
    obtain ⟨k, rfl⟩ : ∃ m, k = m + 1 := ⟨k - 1, by omega⟩
    rw [spec_l1Bytes.l0, if_neg (by omega)]
    exact ⟨_, _, _, rfl, by omega, s⟩
  | succ d ih =>
    intro j k acc i h s hj ha hk
    obtain ⟨k, rfl⟩ : ∃ m, k = m + 1 := ⟨k - 1, by omega⟩
    obtain ⟨b, i1, h1, e, _, _, s1⟩ := byte_ok hl (h := h) s
    rw [spec_l1Bytes.l0, if_pos (by omega), e, Option.bind_some, if_pos (by omega), show wrap64 ((j : Int) + 1) = ((j + 1 : Nat) : Int) by rw [wrap_in (by omega) (by omega)]; omega]
    exact ih (j + 1) k _ i1 h1 s1 (by omega) (by rw [List.length_append, List.length_singleton]; omega) (by omega)
theorem bytes_ok {l : List Int} (hl : l.length ≤ 140737488351232) {i h : Int} (n : Nat) (hn : n ≤ 1000) (s : St l i) {k : Nat} (hk : n < k) :
    ∃ xs i' h', spec_l1Bytes.f k l i h (n : Int) = some (xs, i', h') ∧ xs.length = n ∧ St l i' := by
  unfold spec_l1Bytes.f
  exact bytes_loop hl n hn n 0 k [] i h s (by omega) rfl hk
theorem diskNew_ok {x : Int} (h0 : 0 ≤ x) (h1 : x < 6) : ∃ b : List Int, spec_DiskNew.f (wrap64 (1 + x)) = some (b, []) ∧ b.length = 64 * (x.toNat + 1) := by
  unfold spec_DiskNew.f
  rw [show wrap64 (1 + x) = 1 + x from wrap_in (by omega) (by omega), spec_l1In_eq, Option.bind_some, show (decide (1 ≤ 1 + x) && decide (1 + x ≤ 400)) = true by rw [Bool.and_eq_true, decide_eq_true_eq, decide_eq_true_eq]; omega, if_pos rfl,
    show wrap64 ((1 + x) * 64) = (1 + x) * 64 from wrap_in (by omega) (by omega), if_pos (by omega), if_pos (by omega)]
  exact ⟨_, rfl, by rw [List.length_replicate]; omega⟩
theorem draw_loop {l : List Int} (hl : l.length ≤ 140737488351232) (m : Nat) (hm : 1 ≤ m) (hm6 : m ≤ 6) : ∀ (d k : Nat) (i h : Int) (b : List Int) (L : List IW), St l i → b.length = 64 * m → L.length + d ≤ 6 → (∀ x ∈ L, x.f1.length ≤ 64) → 200 + d < k →
    ∃ b' L' i' h', spec_l11Draw.l0 k (d : Int) l i h b L = some (b', L', i', h') ∧ St l i' ∧ b'.length ≤ 384 ∧ L'.length ≤ 7 ∧ (∀ x ∈ L', x.f1.length ≤ 64) := by
  intro d
  induction d with
  | zero =>
    intro k i h b L s hb hL hr hk
    obtain ⟨k, rfl⟩ : ∃ m, k = m + 1 := ⟨k - 1, by omega⟩
    obtain ⟨x, i1, h1, e1, s1, _⟩ := below_ok hl (h := h) (n := 20) s
    rw [spec_l11Draw.l0, if_neg (by omega), e1, Option.bind_some]
    simp only []
    by_cases c0 : x = 0
    · rw [if_pos c0, if_pos (by omega)]
      exact ⟨_, _, _, _, rfl, s1, by rw [List.length_drop]; omega, by omega, hr⟩
    rw [if_neg c0]
    by_cases c1 : x = 1
    · rw [if_pos c1]
      obtain ⟨v, i2, h2, e2, _, s2⟩ := int_ok hl (h := h1) ([(-1), 0, 9] : List Int) (by decide) s1
      rw [e2, Option.bind_some]
      obtain ⟨u, i3, h3, e3, hu, s3⟩ := int_ok hl (h := h2) ([64, 63] : List Int) (by decide) s2
      simp only []
      rw [e3, Option.bind_some]
      simp only []
      obtain ⟨n, hn, hn64⟩ : ∃ n : Nat, u = (n : Int) ∧ n ≤ 64 := by
        simp only [List.mem_cons, List.not_mem_nil, or_false] at hu
        rcases hu with rfl | rfl
        · exact ⟨64, rfl, by omega⟩
        · exact ⟨63, rfl, by omega⟩
      subst hn
      obtain ⟨xs, i4, h4, e4, hx, s4⟩ := bytes_ok hl (h := h3) n (by omega) s3 (k := k) (by omega)
      rw [e4, Option.bind_some, if_pos (by omega)]
      refine ⟨_, _, _, _, rfl, s4, by omega, by rw [List.length_append, List.length_singleton]; omega, fun y hy => ?_⟩
      rcases List.mem_append.1 hy with h5 | h5
      · exact hr y h5
      · rw [List.mem_singleton] at h5; subst h5; show xs.length ≤ 64; omega
    rw [if_neg c1]
    by_cases c2 : x = 2
    · rw [if_pos c2]; exact ⟨_, _, _, _, rfl, s1, by simp, by simp, fun y hy => by cases hy⟩
    · rw [if_neg c2]; exact ⟨_, _, _, _, rfl, s1, by omega, by omega, hr⟩
  | succ d ih =>
    intro k i h b L s hb hL hr hk
    obtain ⟨k, rfl⟩ : ∃ m, k = m + 1 := ⟨k - 1, by omega⟩
    have hr1 : ∀ x ∈ L, x.f1.length ≤ 1048576 := fun x q => by have := hr x q; omega
    obtain ⟨x, i1, h1, e1, s1, x0, x1, _⟩ := below_ok hl (h := h) (n := (m : Int)) s
    rw [spec_l11Draw.l0, if_pos (by omega), show spec_l11Many.f b L = some (m : Int) by unfold spec_l11Many.f; rw [wrap_in (by omega) (by omega)]; congr 1; omega, Option.bind_some, e1, Option.bind_some]
    simp only []
    obtain ⟨xs, i2, h2, e2, hx, s2⟩ := bytes_ok hl (h := h1) 64 (by omega) s1 (k := k) (by omega)
    rw [show ((64 : Nat) : Int) = 64 from rfl] at e2
    rw [e2, Option.bind_some]
    simp only []
    rw [specWrite_eq b L x xs (by omega) (by omega) hr1 (by omega), Option.bind_some]
    obtain ⟨G, hG⟩ : ∃ G, G = wrQ b L x xs := ⟨_, rfl⟩
    have hGl : G.length ≤ L.length + 1 ∧ ∀ y ∈ G, y.f1.length ≤ 64 := by
      rw [hG]; unfold wrQ
      split
      · refine ⟨by rw [List.length_append, List.length_singleton]; omega, fun y hy => ?_⟩
        rcases List.mem_append.1 hy with h5 | h5
        · exact hr y h5
        · rw [List.mem_singleton] at h5; subst h5; show xs.length ≤ 64; omega
      · exact ⟨by omega, hr⟩
    rw [← hG]; clear hG
    obtain ⟨hg1, hg2⟩ := hGl
    obtain ⟨c, i3, h3, e3, s3⟩ := once_ok hl (h := h2) 3 s2
    simp only []
    rw [e3, Option.bind_some]
    simp only []
    rw [show wrap64 (((d + 1 : Nat) : Int) - 1) = (d : Int) by rw [wrap_in (by omega) (by omega)]; omega]
    cases c
    · rw [if_neg (by decide)]
      exact ih k i3 h3 b G s3 hb (by omega) hg2 (by omega)
    · rw [if_pos rfl, specSync_eq b G (by omega) (by omega) (fun y hy => by have := hg2 y hy; omega) (by omega), Option.bind_some]
      exact ih k i3 h3 _ _ s3 (by show (syM b G).length = _; rw [syM_len]; exact hb) (by have := syQ_len b G; show (syQ b G).length + d ≤ 6; omega) (fun y hy => hg2 y (syQ_sub _ _ y hy)) (by omega)
theorem drawDisk_ok {l : List Int} (hl : l.length ≤ 140737488351232) {i h : Int} (s : St l i) {k : Nat} (hk : 300 < k) :
    ∃ b' L' i' h', spec_l11Draw.f k l i h = some (b', L', i', h') ∧ St l i' ∧ b'.length ≤ 384 ∧ L'.length ≤ 7 ∧ (∀ x ∈ L', x.f1.length ≤ 64) := by
  obtain ⟨x, i1, h1, e1, s1, x0, x1, _⟩ := below_ok hl (h := h) (n := 6) s
  have x6 := x1 (by decide)
  obtain ⟨b, e2, hb⟩ := diskNew_ok x0 x6
  obtain ⟨y, i2, h2, e3, s2, y0, y1, _⟩ := below_ok hl (h := h1) (n := 6) s1
  have y6 := y1 (by decide)
  unfold spec_l11Draw.f
  rw [e1, Option.bind_some]
  simp only []
  rw [e2, Option.bind_some, e3, Option.bind_some]
  simp only []
  obtain ⟨n, rfl⟩ : ∃ n : Nat, y = (n : Int) := ⟨y.toNat, by omega⟩
  exact draw_loop hl (x.toNat + 1) (by omega) (by omega) n k i2 h2 b [] s2 hb (by simp; omega) (fun y hy => by cases hy) (by omega)
theorem drawCrash_ok {l : List Int} (hl : l.length ≤ 140737488351232) {k : Nat} (hk : l.length < k) (hk3 : 300 < k) :
    ∃ b L c, spec_DrawCrash.f k l = some (b, L, c) ∧ b.length ≤ 384 ∧ L.length ≤ 7 ∧ (∀ x ∈ L, x.f1.length ≤ 64) ∧ c.length ≤ 3 := by
  obtain ⟨h, e⟩ := new_ok l hl hk
  obtain ⟨b, L, i1, h1, e1, s1, hb, hL, hr⟩ := drawDisk_ok hl (h := h) (st0 l) hk3
  obtain ⟨x, i2, h2, e2, s2, x0, x1, _⟩ := below_ok hl (h := h1) (n := 3) s1
  have x3 := x1 (by decide)
  obtain ⟨n, rfl⟩ : ∃ n : Nat, x = (n : Int) := ⟨x.toNat, by omega⟩
  obtain ⟨xs, i3, h3, e3, hx, s3⟩ := bytes_ok hl (h := h2) n (by omega) s2 (k := k) (by omega)
  unfold spec_DrawCrash.f
  rw [e, Option.bind_some]
  simp only []
  rw [e1, Option.bind_some]
  simp only []
  rw [e2, Option.bind_some]
  simp only []
  rw [e3, Option.bind_some]
  exact ⟨_, _, _, rfl, hb, hL, hr, by show xs.length ≤ 3; omega⟩
theorem spl_get (b ys : List Int) (o i : Nat) (h : o + ys.length ≤ b.length) : (spl b o ys)[i]? = if i < o then b[i]? else if i < o + ys.length then ys[i - o]? else b[i]? := by
  unfold spl
  rw [List.getElem?_append, List.length_append, List.length_take, Nat.min_eq_left (by omega)]
  by_cases h1 : i < o + ys.length
  · rw [if_pos h1, List.getElem?_append, List.length_take, Nat.min_eq_left (by omega)]
    by_cases h2 : i < o
    · rw [if_pos h2, if_pos h2, List.getElem?_take, if_pos h2]
    · rw [if_neg h2, if_neg h2, if_pos h1]
  · rw [if_neg h1, if_neg (by omega), if_neg h1, List.getElem?_drop]
    congr 1; omega
theorem secB_get (b : List Int) (at_ : Nat) (j : Nat) : (secB b (at_ : Int))[j]? = if j < 64 then b[at_ * 64 + j]? else none := by
  unfold secB
  rw [List.getElem?_drop, List.getElem?_take, show (((at_ : Int) + 1) * 64).toNat = at_ * 64 + 64 by omega, show ((at_ : Int) * 64).toNat = at_ * 64 by omega]
  by_cases h : j < 64
  · rw [if_pos h, if_pos (by omega)]
  · rw [if_neg h, if_neg (by omega)]
theorem secB_sy1 {b : List Int} {x : IW} (hx : wIn b.length x) (at_ : Nat) (hat : at_ * 64 + 64 ≤ b.length) : secB (sy1 b x) (at_ : Int) = if x.f0 = (at_ : Int) then x.f1 else secB b (at_ : Int) := by
  obtain ⟨h1, h2, h3⟩ := hx
  obtain ⟨n, hn⟩ : ∃ n : Nat, x.f0 = (n : Int) := ⟨x.f0.toNat, by omega⟩
  rw [hn] at h2 ⊢
  apply List.ext_getElem?
  intro j
  rw [secB_get]
  unfold sy1
  rw [hn, show ((n : Int) * 64).toNat = n * 64 by omega]
  by_cases h : j < 64
  · rw [if_pos h, spl_get _ _ _ _ (by omega)]
    by_cases hc : n = at_
    · subst hc
      rw [if_pos rfl, if_neg (by omega), if_pos (by omega)]; congr 1; omega
    · rw [if_neg (show ¬ ((n : Int) = (at_ : Int)) by omega), secB_get, if_pos h]
      by_cases h5 : at_ * 64 + j < n * 64
      · rw [if_pos h5]
      · rw [if_neg h5, if_neg (by omega)]
  · rw [if_neg h]
    by_cases hc : n = at_
    · subst hc
      rw [if_pos rfl, List.getElem?_eq_none (by omega)]
    · rw [if_neg (by omega), secB_get, if_neg h]
theorem secB_syB (at_ : Nat) : ∀ (L : List IW) (b : List Int), (∀ x ∈ L, wIn b.length x) → at_ * 64 + 64 ≤ b.length → secB (syB b L) (at_ : Int) = lastW (at_ : Int) (secB b (at_ : Int)) L
  | [], b, _, _ => rfl
  | x :: L, b, h, hat => by
    have hx := h x (by simp)
    have hl := sy1_len hx
    show secB (syB (sy1 b x) L) (at_ : Int) = lastW (at_ : Int) (if x.f0 = (at_ : Int) then x.f1 else secB b (at_ : Int)) L
    rw [secB_syB at_ L (sy1 b x) (fun y hy => by rw [hl]; exact h y (by simp [hy])) (by omega), secB_sy1 hx at_ hat]
theorem lastW_mem (at_ : Int) : ∀ (L : List IW) (d : List Int), lastW at_ d L = d ∨ ∃ x ∈ L, x.f0 = at_ ∧ lastW at_ d L = x.f1
  | [], d => .inl rfl
  | x :: L, d => by
    show lastW at_ (if x.f0 = at_ then x.f1 else d) L = d ∨ ∃ y ∈ x :: L, y.f0 = at_ ∧ lastW at_ (if x.f0 = at_ then x.f1 else d) L = y.f1
    rcases lastW_mem at_ L (if x.f0 = at_ then x.f1 else d) with h | ⟨y, hy, h1, h2⟩
    · rw [h]
      by_cases hc : x.f0 = at_
      · rw [if_pos hc]; exact .inr ⟨x, by simp, hc, rfl⟩
      · rw [if_neg hc]; exact .inl rfl
    · exact .inr ⟨y, by simp [hy], h1, h2⟩
theorem known_loop (b : List Int) (L : List IW) (B X : List Int) (Q Y : List IW) (kk : Int) (now : List Int) (hn : now.length = 64) (hL : L.length ≤ 1048576) (k : Nat) (hk : 64 < k) : ∀ (d i : Nat) (x9 : Bool), i + d = L.length → (x9 = true ∨ ∃ x ∈ L.drop i, x.f0 = kk ∧ now = x.f1) →
    laws_FnDisk.l1 (k + d) kk now x9 (i : Int) b L B Q X Y = laws_FnDisk.l1 k kk now true (L.length : Int) b L B Q X Y := by
  intro d
  induction d with
  | zero =>
    intro i x9 hi h
    obtain rfl : i = L.length := by omega
    rcases h with rfl | ⟨x, hx, _⟩
    · rfl
    · rw [List.drop_eq_nil_of_le (Nat.le_refl _)] at hx; cases hx
  | succ d ih =>
    intro i x9 hi h
    have ex : rd_T34 L (i : Int) = L.getD i z34 := by unfold rd_T34; rw [Int.toNat_natCast]
    have ew : wrap64 ((i : Int) + 1) = ((i + 1 : Nat) : Int) := by rw [wrap_in (by omega) (by omega)]; omega
    rw [show k + (d + 1) = (k + d) + 1 from rfl, laws_FnDisk.l1, if_pos (by omega), ew]
    by_cases c : x9 = true
    · rw [if_pos c]
      exact ih (i + 1) true (by omega) (.inl rfl)
    · rw [if_neg c, if_pos (by omega), ex]
      have h2 := h.resolve_left c
      rw [dropAt z34 L i (by omega)] at h2
      generalize L.getD i z34 = y at h2 ⊢
      obtain ⟨x, hx, h3, h4⟩ := h2
      by_cases c2 : y.f0 = kk
      · rw [if_pos c2, same_dec now y.f1 (by omega) (by omega), Option.bind_some]
        refine ih (i + 1) _ (by omega) ?_
        rcases List.mem_cons.1 hx with rfl | h5
        · exact .inl (decide_eq_true h4)
        · exact .inr ⟨x, h5, h3, h4⟩
      · rw [if_neg c2]
        refine ih (i + 1) _ (by omega) (.inr ?_)
        rcases List.mem_cons.1 hx with rfl | h5
        · exact absurd h3 c2
        · exact ⟨x, h5, h3, h4⟩
theorem wsec (s : Nat) (h : s ≤ 400) : wrap64 ((s : Int) * 64) = (s : Int) * 64 ∧ wrap64 ((s : Int) + 1) = (s : Int) + 1 ∧ wrap64 (((s : Int) + 1) * 64) = ((s : Int) + 1) * 64 :=
  ⟨wrap_in (by omega) (by omega), wrap_in (by omega) (by omega), wrap_in (by omega) (by omega)⟩
theorem sec_loop (b : List Int) (L : List IW) (hd : dOk b L = true) (hL : L.length ≤ 1048576) (c : List Int) : ∀ (d s k : Nat), s + d = b.length / 64 → d * (L.length + 2) + L.length + 200 < k →
    laws_FnDisk.l0 k (s : Int) b L (syB b L) [] (syB b (kp c 0 L)) [] = some true := by
  obtain ⟨⟨h4, h5, h6⟩, h7⟩ := dOk_iff hd
  have hin := wAll_in h7
  have lB := syB_len L b hin
  have lX := syB_len (kp c 0 L) b (fun x hx => hin x (kp_sub c L 0 x hx))
  intro d
  induction d with
  | zero =>
    intro s k hs hk
    obtain ⟨k, rfl⟩ : ∃ m, k = m + 1 := ⟨k - 1, by omega⟩
    rw [laws_FnDisk.l0, if_neg (by rw [wrap_in (by omega) (by omega)]; omega)]; rfl
  | succ d ih =>
    intro s k hs hk
    obtain ⟨k, rfl, hk1, hk2⟩ : ∃ m, k = m + 1 + L.length + 1 ∧ L.length + 200 ≤ m ∧ Aside0 (d * (L.length + 2) + L.length + 200 < m) := by
      rw [Nat.succ_mul] at hk
      generalize d * (L.length + 2) = z at hk
      exact ⟨k - 2 - L.length, by omega, by omega, ⟨by omega⟩⟩
    clear hk
    have hat : s * 64 + 64 ≤ b.length := by omega
    obtain ⟨w1, w2, w3⟩ := wsec s (by omega)
    have hrd : rdOk b L (s : Int) = true := by unfold rdOk; rw [hd, decide_eq_true (by omega)]; rfl
    have hnow := secB_syB s (kp c 0 L) b (fun x hx => hin x (kp_sub c L 0 x hx)) hat
    have hall := secB_syB s L b hin hat
    have hn64 : (secB (syB b (kp c 0 L)) (s : Int)).length = 64 := by unfold secB; rw [List.length_drop, List.length_take]; omega
    rw [laws_FnDisk.l0]
    simp only [w1, w2, w3]
    rw [if_pos (by rw [wrap_in (by omega) (by omega)]; omega), if_pos (by omega), if_pos (by omega), if_pos (by omega), Option.bind_some, if_pos (by omega)]
    rw [show List.drop ((s : Int) * 64).toNat (List.take (((s : Int) + 1) * 64).toNat (syB b (kp c 0 L))) = secB (syB b (kp c 0 L)) (s : Int) from rfl, show List.drop ((s : Int) * 64).toNat (List.take (((s : Int) + 1) * 64).toNat b) = secB b (s : Int) from rfl,
      same_dec _ _ (by omega) (by omega), Option.bind_some]
    have hk3 := known_loop b L (syB b L) (syB b (kp c 0 L)) [] [] (s : Int) (secB (syB b (kp c 0 L)) (s : Int)) hn64 hL (k + 1) (by omega) L.length 0 (decide (secB (syB b (kp c 0 L)) (s : Int) = secB b (s : Int))) (by omega) (by
      rw [hnow, List.drop_zero]
      rcases lastW_mem (s : Int) (kp c 0 L) (secB b (s : Int)) with h | ⟨x, hx, h1, h2⟩
      · exact .inl (decide_eq_true h)
      · exact .inr ⟨x, kp_sub c L 0 x hx, h1, h2⟩)
    rw [show ((0 : Nat) : Int) = 0 from rfl] at hk3
    rw [hk3, laws_FnDisk.l1, if_neg (by omega), implRead_eq b L (s : Int) (by omega) (by omega) (by omega), Option.bind_some, if_pos rfl, hrd, if_pos rfl]
    simp only [w1, w2, w3]
    rw [if_pos (by omega), if_pos (by omega), if_pos (by omega)]
    rw [show List.drop ((s : Int) * 64).toNat (List.take (((s : Int) + 1) * 64).toNat (syB b L)) = secB (syB b L) (s : Int) from rfl, show readM b L (s : Int) = lastW (s : Int) (secB b (s : Int)) L from by unfold readM; rw [if_pos hrd], ← hall]
    rw [same_dec _ _ (by unfold secB; rw [List.length_drop, List.length_take]; omega) (by unfold secB; rw [List.length_drop, List.length_take]; omega), Option.bind_some, decide_eq_true rfl, if_pos rfl]
    exact ih (s + 1) k (by omega) hk2.out
theorem kp_all : ∀ (L : List IW) (i : Nat), i + L.length ≤ 24 → kp [255, 255, 255] i L = L
  | [], _, _ => rfl
  | x :: L, i, h => by
    rw [List.length_cons] at h
    have hc : ∀ j : Fin 24, cn [255, 255, 255] j.val = true := by decide +kernel
    show (if cn [255, 255, 255] i = true then x :: kp [255, 255, 255] (i + 1) L else kp [255, 255, 255] (i + 1) L) = _
    rw [if_pos (hc ⟨i, by omega⟩), kp_all L (i + 1) (by omega)]
theorem FnDisk : laws_FnDisk.Pure := by
  intro l hm h8 _
  have hl : l.length ≤ 140737488351232 := by omega
  refine ⟨l.length + 20000, ?_⟩
  unfold laws_FnDisk.f laws_big.f
  rw [Option.bind_some]
  by_cases hbig : decide ((l.length : Int) > 1048576) = true
  · rw [if_pos hbig]
  rw [if_neg hbig]
  obtain ⟨b, L, c, e, hb, hL, hr, hc⟩ := drawCrash_ok hl (k := l.length + 20000) (by omega) (by omega)
  have hr1 : ∀ x ∈ L, x.f1.length ≤ 1048576 := fun x q => by have := hr x q; omega
  rw [e, Option.bind_some]
  simp only []
  rw [specOk_eq b L (by omega) (by omega) (by omega), Option.bind_some]
  by_cases hd : dOk b L = true
  · obtain ⟨⟨h4, h5, h6⟩, h7⟩ := dOk_iff hd
    have hin := wAll_in h7
    have lB := syB_len L b hin
    have lX := syB_len (kp c 0 L) b (fun x hx => hin x (kp_sub c L 0 x hx))
    have eM : syM b L = syB b L := by unfold syM; rw [if_pos hd]
    have eQ : syQ b L = [] := by unfold syQ; rw [if_pos hd]
    have hd2 : dOk (syB b L) [] = true := by unfold dOk; rw [decide_eq_true (by omega)]; rfl
    rw [if_pos hd, implSync_eq b L (by omega) (by omega) hr1 (by omega), Option.bind_some, eM, eQ]
    simp only []
    rw [if_pos (show (([] : List IW).length : Int) = 0 from rfl), implCrash_eq (syB b L) [] c (by omega) (by simp) (fun x hx => by cases hx) (by simp), Option.bind_some]
    simp only []
    rw [show crM (syB b L) c [] = syB b L from by unfold crM; rw [if_pos hd2]; rfl, same_dec _ _ (by omega) (by omega), Option.bind_some, decide_eq_true rfl, if_pos rfl,
      implCrash_eq b L [255, 255, 255] (by omega) (by omega) hr1 (by omega), Option.bind_some]
    simp only []
    rw [show crM b [255, 255, 255] L = syB b L from by unfold crM; rw [if_pos hd, kp_all L 0 (by omega)], same_dec _ _ (by omega) (by omega), Option.bind_some, decide_eq_true rfl]
    rw [show l.length + 20000 = (l.length + 19997) + 1 + 1 + 1 from rfl, laws_FnDisk.j0, if_neg (by decide), implCrash_eq b L c (by omega) (by omega) hr1 (by omega), Option.bind_some]
    simp only []
    rw [show crM b c L = syB b (kp c 0 L) from by unfold crM; rw [if_pos hd], eQ, if_pos (by omega), laws_FnDisk.j1, if_neg (by simp; omega)]
    have hq : b.length / 64 * (L.length + 2) ≤ 6 * 9 := Nat.mul_le_mul (by omega) (by omega)
    exact sec_loop b L hd (by omega) c (b.length / 64) 0 _ (by omega) (by omega)
  · rw [if_neg hd, implOk_eq b L (by omega) (by omega) (by omega), Option.bind_some]
    simp [Bool.eq_false_iff.2 hd]

end Go.Proofs.Ytinilabmffjnaaa.Pure
