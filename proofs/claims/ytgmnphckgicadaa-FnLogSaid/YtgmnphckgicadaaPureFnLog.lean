/- The pure statement of the law FnLog: what the printed functions compute answers true at every input. No conditions beyond the printed bounds. -/
import Derived.Test.YtgmnphckgicadaaMFnLogxe
namespace Go.Proofs.Ytgmnphckgicadaa.Pure
open Go.RowKit Go.Proofs.Ytgmnphckgicadaa.PFnLog Go.Proofs.YtgmnphckgicadaaW.PrintWords Go.Proofs.YtgmnphckgicadaaW.PrintLast Go.Proofs.YtgmnphckgicadaaW.PrintMore
set_option linter.unusedVariables false
set_option linter.unusedSimpArgs false

/-- The points that are right. -/
def ptOk (x y : Int) : Bool := decide (-10000000 ≤ x) && decide (x ≤ 10000000) && decide (-10000000 ≤ y) && decide (y ≤ 10000000)
/-- The boxes that are right. -/
def boxOk (a b c d : Int) : Bool := ptOk a b && ptOk c d && decide (a ≤ c) && decide (b ≤ d)
theorem wrap_in {x : Int} (h1 : -9223372036854775808 ≤ x) (h2 : x ≤ 9223372036854775807) : wrap64 x = x := by unfold wrap64; omega
theorem u64_in {x : Int} (h1 : 0 ≤ x) (h2 : x ≤ 18446744073709551615) : IntKind.u64.wrap x = x := by
  simp [IntKind.wrap, IntKind.bits, IntKind.signed]; omega
theorem spec_l1In_eq (a b c : Int) : spec_l1In.f a b c = some (decide (b ≤ a) && decide (a ≤ c)) := by
  unfold spec_l1In.f; by_cases h : b ≤ a <;> simp [h]
theorem impl_inRange_eq (a b c : Int) : impl_inRange.f a b c = some (decide (b ≤ a) && decide (a ≤ c)) := by
  unfold impl_inRange.f; by_cases h : b ≤ a <;> simp [h]
/-! The draws answer, whatever the bytes are. -/
def St (l : List Int) (i : Int) : Prop := 0 ≤ i ∧ i ≤ l.length
theorem and255 (x : Int) : 0 ≤ Go.bits .and .i64 x 255 ∧ Go.bits .and .i64 x 255 ≤ 255 := by
  have h : ((BitVec.ofInt 64 x &&& BitVec.ofInt 64 255).toNat) ≤ 255 := by
    rw [BitVec.toNat_and]
    exact Nat.le_trans Nat.and_le_right (by decide)
  have e : Go.bits .and .i64 x 255 = IntKind.i64.wrap ((BitVec.ofInt 64 x &&& BitVec.ofInt 64 255).toNat : Int) := rfl
  rw [e, IntKind.wrap_i64]
  generalize (BitVec.ofInt 64 x &&& BitVec.ofInt 64 255).toNat = m at h ⊢
  omega
theorem byte_ok {l : List Int} (hl : l.length ≤ 140737488351232) {i h : Int} (s : St l i) : ∃ b i' h', spec_l1Byte.f l i h = some (b, i', h') ∧ 0 ≤ b ∧ b ≤ 255 ∧ St l i' := by
  obtain ⟨s0, s1⟩ := s
  unfold spec_l1Byte.f
  by_cases c : i < (l.length : Int)
  · rw [if_pos c, if_pos s0]
    refine ⟨_, _, _, rfl, (and255 _).1, (and255 _).2, ?_⟩
    rw [wrap_in (by omega) (by omega)]; exact ⟨by omega, by omega⟩
  · rw [if_neg c]
    exact ⟨_, _, _, rfl, (and255 _).1, (and255 _).2, s0, s1⟩
theorem tmod_range {x n : Int} (h0 : 0 ≤ x) (hn : 0 < n) : 0 ≤ Int.tmod x n ∧ Int.tmod x n < n := by
  rw [Int.tmod_eq_emod_of_nonneg h0]
  exact ⟨Int.emod_nonneg _ (by omega), Int.emod_lt_of_pos _ hn⟩
theorem below_ok {l : List Int} (hl : l.length ≤ 140737488351232) {i h n : Int} (s : St l i) :
    ∃ x i' h', spec_l1Below.f l i h n = some (x, i', h') ∧ St l i' ∧ 0 ≤ x ∧ (0 < n → x < n) ∧ (n ≤ 0 → x = 0) := by
  unfold spec_l1Below.f
  by_cases c : n ≤ 0
  · rw [if_pos c]; exact ⟨_, _, _, rfl, s, by decide, by omega, fun _ => rfl⟩
  · rw [if_neg c]
    by_cases c2 : n ≤ 256
    · rw [if_pos c2]
      obtain ⟨b, i1, h1, e, b0, b1, s1⟩ := byte_ok hl (h := h) s
      rw [e]; simp only [Option.bind_some]; rw [if_neg (by omega)]
      have := tmod_range b0 (show 0 < n by omega)
      exact ⟨_, _, _, rfl, s1, this.1, fun _ => this.2, by omega⟩
    · rw [if_neg c2]
      obtain ⟨b, i1, h1, e, b0, b1, s1⟩ := byte_ok hl (h := h) s
      obtain ⟨b', i2, h2, e2, b0', b1', s2⟩ := byte_ok hl (h := h1) s1
      obtain ⟨b'', i3, h3, e3, b0'', b1'', s3⟩ := byte_ok hl (h := h2) s2
      rw [e]; simp only [Option.bind_some]; rw [e2]; simp only [Option.bind_some]; rw [e3]; simp only [Option.bind_some]; rw [if_neg (by omega)]
      have nn : 0 ≤ wrap64 (wrap64 (wrap64 (b * 65536) + wrap64 (b' * 256)) + b'') := by
        rw [wrap_in (x := b * 65536) (by omega) (by omega), wrap_in (x := b' * 256) (by omega) (by omega), wrap_in (x := b * 65536 + b' * 256) (by omega) (by omega), wrap_in (by omega) (by omega)]; omega
      have := tmod_range nn (show 0 < n by omega)
      exact ⟨_, _, _, rfl, s3, this.1, fun _ => this.2, by omega⟩
theorem once_ok {l : List Int} (hl : l.length ≤ 140737488351232) {i h : Int} (n : Int) (s : St l i) : ∃ b i' h', spec_l1Once.f l i h n = some (b, i', h') ∧ St l i' := by
  obtain ⟨x, i1, h1, e, s1, _⟩ := below_ok hl (h := h) (n := n) s
  unfold spec_l1Once.f; rw [e]; exact ⟨_, _, _, rfl, s1⟩
theorem int_ok {l : List Int} (hl : l.length ≤ 140737488351232) {i h : Int} (xs : List Int) (hx : 0 < xs.length) (s : St l i) : ∃ v i' h', spec_l1Int.f l i h xs = some (v, i', h') ∧ v ∈ xs ∧ St l i' := by
  obtain ⟨x, i1, h1, e, s1, x0, x1, _⟩ := below_ok hl (h := h) (n := (xs.length : Int)) s
  have hx1 := x1 (by omega)
  unfold spec_l1Int.f; rw [e]; simp only [Option.bind_some]; rw [if_pos x0, if_pos hx1]
  refine ⟨_, _, _, rfl, ?_, s1⟩
  unfold rd
  have hlt : x.toNat < xs.length := by omega
  rw [List.getD_eq_getElem?_getD, List.getElem?_eq_getElem hlt]
  exact List.getElem_mem hlt
theorem new_loop (l : List Int) (hl : l.length ≤ 140737488351232) : ∀ (d i k : Nat) (h : Int), i + d = l.length → d < k → ∃ h', spec_l1New.l0 k l h (i : Int) = some (l, 0, h') := by
  intro d
  induction d with
  | zero =>
    intro i k h hi hk
    obtain ⟨k, rfl⟩ : ∃ m, k = m + 1 := ⟨k - 1, by omega⟩
    simp only [spec_l1New.l0]; rw [if_neg (by omega)]; exact ⟨_, rfl⟩
  | succ d ih =>
    intro i k h hi hk
    obtain ⟨k, rfl⟩ : ∃ m, k = m + 1 := ⟨k - 1, by omega⟩
    simp only [spec_l1New.l0]; rw [if_pos (by omega)]
    by_cases c : (i : Int) < 4000
    · rw [if_pos c, if_pos (by omega), show wrap64 ((i : Int) + 1) = ((i + 1 : Nat) : Int) by rw [wrap_in (by omega) (by omega)]; omega]
      exact ih (i + 1) k _ (by omega) (by omega)
    · rw [if_neg c]; exact ⟨_, rfl⟩
theorem new_ok (l : List Int) (hl : l.length ≤ 140737488351232) {k : Nat} (hk : l.length < k) : ∃ h, spec_l1New.f k l = some (l, 0, h) := by
  unfold spec_l1New.f; exact new_loop l hl l.length 0 k _ (by omega) hk
theorem st0 (l : List Int) : St l 0 := ⟨by decide, by omega⟩
theorem dropAt {α : Type} (z : α) : ∀ (l : List α) (i : Nat), i < l.length → l.drop i = l.getD i z :: l.drop (i + 1)
  | [], i, h => by simp at h
  | x :: r, 0, _ => rfl
  | x :: r, i + 1, h => by
    have := dropAt z r i (by simpa using h)
    simpa using this
theorem getDin {α : Type} (z : α) {l : List α} {i : Nat} (h : i < l.length) : l.getD i z ∈ l := by
  rw [List.getD_eq_getElem?_getD, List.getElem?_eq_getElem h]; exact List.getElem_mem h
/-! Disks: rows of writes. -/
abbrev IW := S96
def vMax : List IW → Nat
  | [] => 0
  | r :: t => r.f1.length + 3 + vMax t
def wOk (n : Nat) (x : IW) : Bool := decide (0 ≤ x.f0 ∧ x.f0 < (n : Int)) && decide (x.f1.length = 64)
def dOk (b : List Int) (L : List IW) : Bool := decide (b.length % 64 = 0 ∧ 64 ≤ b.length ∧ b.length ≤ 25600) && L.all (wOk (b.length / 64))
theorem specOk_loop (b : List Int) (hb : b.length ≤ 25600) (hb1 : 64 ≤ b.length) (L : List IW) (hL : L.length ≤ 140737488351232) : ∀ (d i k : Nat), i + d = L.length → d < k →
    spec_DiskOk.l0 k (i : Int) b L = some ((L.drop i).all (wOk (b.length / 64))) := by
  intro d
  induction d with
  | zero =>
    intro i k hi hk
    obtain ⟨k, rfl⟩ : ∃ m, k = m + 1 := ⟨k - 1, by omega⟩
    simp only [spec_DiskOk.l0]; rw [if_neg (by omega), List.drop_eq_nil_of_le (by omega)]; rfl
  | succ d ih =>
    intro i k hi hk
    obtain ⟨k, rfl⟩ : ∃ m, k = m + 1 := ⟨k - 1, by omega⟩
    simp only [spec_DiskOk.l0, spec_l11Many.f, spec_l1In_eq, Option.bind_some]
    have ex : rd_T96 L (i : Int) = L.getD i z96 := by unfold rd_T96; rw [Int.toNat_natCast]
    rw [if_pos (by omega), if_pos (by omega), ex, dropAt z96 L i (by omega), List.all_cons, wrap_in (x := (b.length : Int) / 64) (by omega) (by omega), wrap_in (x := (b.length : Int) / 64 - 1) (by omega) (by omega),
      show wrap64 ((i : Int) + 1) = ((i + 1 : Nat) : Int) by rw [wrap_in (by omega) (by omega)]; omega, ih (i + 1) k (by omega) (by omega)]
    generalize L.getD i z96 = x
    by_cases h1 : 0 ≤ x.f0 ∧ x.f0 < ((b.length / 64 : Nat) : Int)
    · have : (decide (0 ≤ x.f0) && decide (x.f0 ≤ (b.length : Int) / 64 - 1)) = true := by rw [Bool.and_eq_true, decide_eq_true_eq, decide_eq_true_eq]; omega
      rw [if_pos this]
      by_cases h2 : x.f1.length = 64
      · rw [if_pos (by omega)]; unfold wOk; rw [decide_eq_true h1, decide_eq_true h2]; simp
      · rw [if_neg (by omega)]; unfold wOk; rw [decide_eq_false h2]; simp
    · have : ¬ (decide (0 ≤ x.f0) && decide (x.f0 ≤ (b.length : Int) / 64 - 1)) = true := by rw [Bool.and_eq_true, decide_eq_true_eq, decide_eq_true_eq]; omega
      rw [if_neg this]; unfold wOk; rw [decide_eq_false h1]; simp
theorem specOk_eq (b : List Int) (L : List IW) (hb : b.length ≤ 140737488351232) (hL : L.length ≤ 140737488351232) {k : Nat} (hk : L.length + 2 < k) : spec_DiskOk.f k b L = some (dOk b L) := by
  obtain ⟨k, rfl⟩ : ∃ m, k = m + 1 := ⟨k - 1, by omega⟩
  unfold spec_DiskOk.f
  by_cases h : b.length % 64 = 0 ∧ 64 ≤ b.length ∧ b.length ≤ 25600
  · have hd : dOk b L = L.all (wOk (b.length / 64)) := by unfold dOk; rw [decide_eq_true h, Bool.true_and]
    have e := specOk_loop b h.2.2 h.2.1 L hL L.length 0 k (by omega) (by omega)
    rw [show ((0 : Nat) : Int) = 0 from rfl, List.drop_zero] at e
    have ht : (decide ((1 : Int) ≤ (b.length : Int) / 64) && decide ((b.length : Int) / 64 ≤ 400)) = true := by rw [Bool.and_eq_true, decide_eq_true_eq, decide_eq_true_eq]; omega
    rw [hd, if_pos (show ((b.length : Int) % 64) = 0 by omega)]
    rw [show spec_l11Many.f b L = some ((b.length : Int) / 64) by unfold spec_l11Many.f; rw [wrap_in (by omega) (by omega)]]
    rw [Option.bind_some, spec_l1In_eq, Option.bind_some, ht]
    unfold spec_DiskOk.j0
    exact e
  · have hd : dOk b L = false := by unfold dOk; rw [decide_eq_false h, Bool.false_and]
    rw [hd]
    by_cases h1 : b.length % 64 = 0
    · have ht : (decide ((1 : Int) ≤ (b.length : Int) / 64) && decide ((b.length : Int) / 64 ≤ 400)) = false := by rw [Bool.and_eq_false_iff, decide_eq_false_iff_not, decide_eq_false_iff_not]; omega
      rw [if_pos (show ((b.length : Int) % 64) = 0 by omega)]
      rw [show spec_l11Many.f b L = some ((b.length : Int) / 64) by unfold spec_l11Many.f; rw [wrap_in (by omega) (by omega)]]
      rw [Option.bind_some, spec_l1In_eq, Option.bind_some, ht]
      unfold spec_DiskOk.j0
      rfl
    · rw [if_neg (by omega)]
      simp only [spec_DiskOk.j0, if_true]
theorem implOk_loop (b : List Int) (hb : b.length ≤ 25600) (hb1 : 64 ≤ b.length) (L : List IW) (hL : L.length ≤ 140737488351232) : ∀ (d i k : Nat), i + d = L.length → d < k →
    impl_DiskOk.l0 k b L (L.length : Int) (i : Int) = some ((L.drop i).all (wOk (b.length / 64))) := by
  intro d
  induction d with
  | zero =>
    intro i k hi hk
    obtain ⟨k, rfl⟩ : ∃ m, k = m + 1 := ⟨k - 1, by omega⟩
    simp only [impl_DiskOk.l0]; rw [if_neg (by omega), List.drop_eq_nil_of_le (by omega)]; rfl
  | succ d ih =>
    intro i k hi hk
    obtain ⟨k, rfl⟩ : ∃ m, k = m + 1 := ⟨k - 1, by omega⟩
    simp only [impl_DiskOk.l0, impl_Disk_isSector.f, impl_Disk_sectors.f, impl_inRange_eq, Option.bind_some]
    have ex : rd_T96 L (i : Int) = L.getD i z96 := by unfold rd_T96; rw [Int.toNat_natCast]
    rw [if_pos (by omega), if_pos (by omega), if_pos (by omega), ex, dropAt z96 L i (by omega), List.all_cons, wrap_in (x := (b.length : Int) / 64) (by omega) (by omega), wrap_in (x := (b.length : Int) / 64 - 1) (by omega) (by omega),
      show wrap64 ((i : Int) + 1) = ((i + 1 : Nat) : Int) by rw [wrap_in (by omega) (by omega)]; omega, ih (i + 1) k (by omega) (by omega)]
    generalize L.getD i z96 = x
    by_cases h1 : 0 ≤ x.f0 ∧ x.f0 < ((b.length / 64 : Nat) : Int)
    · have : (decide (0 ≤ x.f0) && decide (x.f0 ≤ (b.length : Int) / 64 - 1)) = true := by rw [Bool.and_eq_true, decide_eq_true_eq, decide_eq_true_eq]; omega
      rw [if_pos this]
      by_cases h2 : x.f1.length = 64
      · rw [if_pos (by omega)]; unfold wOk; rw [decide_eq_true h1, decide_eq_true h2]; simp
      · rw [if_neg (by omega)]; unfold wOk; rw [decide_eq_false h2]; simp
    · have : ¬ (decide (0 ≤ x.f0) && decide (x.f0 ≤ (b.length : Int) / 64 - 1)) = true := by rw [Bool.and_eq_true, decide_eq_true_eq, decide_eq_true_eq]; omega
      rw [if_neg this]; unfold wOk; rw [decide_eq_false h1]; simp
theorem implOk_eq (b : List Int) (L : List IW) (hb : b.length ≤ 140737488351232) (hL : L.length ≤ 140737488351232) {k : Nat} (hk : L.length + 2 < k) : impl_DiskOk.f k b L = some (dOk b L) := by
  obtain ⟨k, rfl⟩ : ∃ m, k = m + 1 := ⟨k - 1, by omega⟩
  unfold impl_DiskOk.f
  by_cases h : b.length % 64 = 0 ∧ 64 ≤ b.length ∧ b.length ≤ 25600
  · have hd : dOk b L = L.all (wOk (b.length / 64)) := by unfold dOk; rw [decide_eq_true h, Bool.true_and]
    have e := implOk_loop b h.2.2 h.2.1 L hL L.length 0 k (by omega) (by omega)
    rw [show ((0 : Nat) : Int) = 0 from rfl, List.drop_zero] at e
    have ht : (decide ((1 : Int) ≤ (b.length : Int) / 64) && decide ((b.length : Int) / 64 ≤ 400)) = true := by rw [Bool.and_eq_true, decide_eq_true_eq, decide_eq_true_eq]; omega
    rw [hd, if_pos (show ((b.length : Int) % 64) = 0 by omega)]
    rw [show impl_Disk_sectors.f b = some ((b.length : Int) / 64) by unfold impl_Disk_sectors.f; rw [wrap_in (by omega) (by omega)]]
    rw [Option.bind_some, impl_inRange_eq, Option.bind_some, ht]
    unfold impl_DiskOk.j0
    exact e
  · have hd : dOk b L = false := by unfold dOk; rw [decide_eq_false h, Bool.false_and]
    rw [hd]
    by_cases h1 : b.length % 64 = 0
    · have ht : (decide ((1 : Int) ≤ (b.length : Int) / 64) && decide ((b.length : Int) / 64 ≤ 400)) = false := by rw [Bool.and_eq_false_iff, decide_eq_false_iff_not, decide_eq_false_iff_not]; omega
      rw [if_pos (show ((b.length : Int) % 64) = 0 by omega)]
      rw [show impl_Disk_sectors.f b = some ((b.length : Int) / 64) by unfold impl_Disk_sectors.f; rw [wrap_in (by omega) (by omega)]]
      rw [Option.bind_some, impl_inRange_eq, Option.bind_some, ht]
      unfold impl_DiskOk.j0
      rfl
    · rw [if_neg (by omega)]
      simp only [impl_DiskOk.j0, if_true]
theorem clone_eq (l : List Int) (h : l.length ≤ 140737488351232) : slices_Clone_byte_byte.f l = some l := by
  unfold slices_Clone_byte_byte.f
  rw [Option.bind_some, if_pos (by simp; omega), List.nil_append]
/-- What is read last of the writes to a sector; d without one. -/
def lastW (at_ : Int) (d : List Int) (L : List IW) : List Int := L.foldl (fun acc x => if x.f0 = at_ then x.f1 else acc) d
def secB (b : List Int) (at_ : Int) : List Int := (b.take ((at_ + 1) * 64).toNat).drop (at_ * 64).toNat
def rdOk (b : List Int) (L : List IW) (at_ : Int) : Bool := dOk b L && decide (0 ≤ at_ ∧ at_ < ((b.length / 64 : Nat) : Int))
def readM (b : List Int) (L : List IW) (at_ : Int) : List Int := if rdOk b L at_ = true then lastW at_ (secB b at_) L else []
theorem lastW_len (at_ : Int) (n : Nat) : ∀ (L : List IW) (d : List Int), d.length = 64 → L.all (wOk n) = true → (lastW at_ d L).length = 64
  | [], d, h, _ => h
  | x :: t, d, h, ha => by
    rw [List.all_cons, Bool.and_eq_true] at ha
    have hx : x.f1.length = 64 := by have := ha.1; unfold wOk at this; rw [Bool.and_eq_true, decide_eq_true_eq, decide_eq_true_eq] at this; exact this.2
    show (lastW at_ (if x.f0 = at_ then x.f1 else d) t).length = 64
    exact lastW_len at_ n t _ (by split <;> assumption) ha.2
theorem dOk_iff {b : List Int} {L : List IW} (h : dOk b L = true) : (b.length % 64 = 0 ∧ 64 ≤ b.length ∧ b.length ≤ 25600) ∧ L.all (wOk (b.length / 64)) = true := by
  unfold dOk at h
  rw [Bool.and_eq_true, decide_eq_true_eq] at h
  exact h
theorem rdOk_iff {b : List Int} {L : List IW} {at_ : Int} (h : rdOk b L at_ = true) : dOk b L = true ∧ 0 ≤ at_ ∧ at_ < ((b.length / 64 : Nat) : Int) := by
  unfold rdOk at h
  rw [Bool.and_eq_true, decide_eq_true_eq] at h
  exact h
theorem secB_len {b : List Int} {L : List IW} {at_ : Int} (h : rdOk b L at_ = true) : (secB b at_).length = 64 := by
  obtain ⟨h1, h2, h3⟩ := rdOk_iff h
  obtain ⟨⟨h4, h5, h6⟩, _⟩ := dOk_iff h1
  unfold secB
  rw [List.length_drop, List.length_take]
  omega
theorem wAll_len {n : Nat} {L : List IW} (h : L.all (wOk n) = true) : ∀ x ∈ L, x.f1.length = 64 := fun x hx => by
  have := List.all_eq_true.1 h x hx
  unfold wOk at this
  rw [Bool.and_eq_true, decide_eq_true_eq, decide_eq_true_eq] at this
  exact this.2
theorem specRead_loop (b : List Int) (at_ : Int) (L : List IW) (hL : L.length ≤ 140737488351232) (hr : ∀ x ∈ L, x.f1.length = 64) : ∀ (d i : Nat) (k : Nat) (acc : List Int), i + d = L.length → d < k →
    spec_ReadSector.l0 k at_ acc (i : Int) b L = some (lastW at_ acc (L.drop i), true) := by
  intro d
  induction d with
  | zero =>
    intro i k acc hi hk
    obtain ⟨k, rfl⟩ : ∃ m, k = m + 1 := ⟨k - 1, by omega⟩
    simp only [spec_ReadSector.l0]; rw [if_neg (by omega), List.drop_eq_nil_of_le (by omega)]; rfl
  | succ d ih =>
    intro i k acc hi hk
    obtain ⟨k, rfl⟩ : ∃ m, k = m + 1 := ⟨k - 1, by omega⟩
    simp only [spec_ReadSector.l0]
    have ex : rd_T96 L (i : Int) = L.getD i z96 := by unfold rd_T96; rw [Int.toNat_natCast]
    have h64 := hr _ (getDin (z := z96) (show i < L.length by omega))
    rw [if_pos (by omega), if_pos (by omega), ex, dropAt z96 L i (by omega), show wrap64 ((i : Int) + 1) = ((i + 1 : Nat) : Int) by rw [wrap_in (by omega) (by omega)]; omega]
    by_cases h : (L.getD i z96).f0 = at_
    · rw [if_pos h, Option.bind_some, if_pos (show ([] : List Int).length + (L.getD i z96).f1.length < 140737488355328 from by rw [h64]; decide), List.nil_append, ih (i + 1) k _ (by omega) (by omega)]
      show _ = some (lastW at_ (if (L.getD i z96).f0 = at_ then _ else _) _, true)
      rw [if_pos h]
    · rw [if_neg h, ih (i + 1) k _ (by omega) (by omega)]
      show _ = some (lastW at_ (if (L.getD i z96).f0 = at_ then _ else _) _, true)
      rw [if_neg h]
theorem specRead_eq (b : List Int) (L : List IW) (at_ : Int) (hb : b.length ≤ 140737488351232) (hL : L.length ≤ 140737488351232) {k : Nat} (hk : L.length + 3 < k) :
    spec_ReadSector.f k b L at_ = some (readM b L at_, rdOk b L at_) := by
  obtain ⟨k, rfl⟩ : ∃ m, k = m + 1 := ⟨k - 1, by omega⟩
  unfold spec_ReadSector.f
  rw [specOk_eq b L hb hL (by omega), Option.bind_some]
  by_cases h1 : dOk b L = true
  · obtain ⟨⟨h4, h5, h6⟩, h7⟩ := dOk_iff h1
    rw [if_pos h1, show spec_l11Many.f b L = some ((b.length : Int) / 64) by unfold spec_l11Many.f; rw [wrap_in (by omega) (by omega)], Option.bind_some, spec_l1In_eq, Option.bind_some,
      show wrap64 ((b.length : Int) / 64 - 1) = (b.length : Int) / 64 - 1 from wrap_in (by omega) (by omega)]
    by_cases h2 : 0 ≤ at_ ∧ at_ < ((b.length / 64 : Nat) : Int)
    · have hr : rdOk b L at_ = true := by unfold rdOk; rw [h1, decide_eq_true h2]; rfl
      have ht : (decide (0 ≤ at_) && decide (at_ ≤ (b.length : Int) / 64 - 1)) = true := by rw [Bool.and_eq_true, decide_eq_true_eq, decide_eq_true_eq]; omega
      rw [ht, show readM b L at_ = lastW at_ (secB b at_) L from by unfold readM; rw [if_pos hr], hr]
      have hs := secB_len hr
      rw [spec_ReadSector.j0]
      rw [if_neg (by decide), Option.bind_some, show wrap64 (at_ * 64) = at_ * 64 from wrap_in (by omega) (by omega), show wrap64 (at_ + 1) = at_ + 1 from wrap_in (by omega) (by omega), show wrap64 ((at_ + 1) * 64) = (at_ + 1) * 64 from wrap_in (by omega) (by omega),
        if_pos (by omega), if_pos (by omega), if_pos (by omega)]
      rw [if_pos (show ([] : List Int).length + (List.drop (at_ * 64).toNat (List.take ((at_ + 1) * 64).toNat b)).length < 140737488355328 from by rw [show List.drop (at_ * 64).toNat (List.take ((at_ + 1) * 64).toNat b) = secB b at_ from rfl, hs]; decide), List.nil_append]
      have e := specRead_loop b at_ L hL (wAll_len h7) L.length 0 k (secB b at_) (by omega) (by omega)
      rw [show ((0 : Nat) : Int) = 0 from rfl, List.drop_zero] at e
      exact e
    · have hr : rdOk b L at_ = false := by unfold rdOk; rw [decide_eq_false h2, Bool.and_false]
      have ht : (decide (0 ≤ at_) && decide (at_ ≤ (b.length : Int) / 64 - 1)) = false := by rw [Bool.and_eq_false_iff, decide_eq_false_iff_not, decide_eq_false_iff_not]; omega
      rw [ht, show readM b L at_ = [] from by unfold readM; rw [if_neg (by rw [hr]; decide)], hr]
      rw [spec_ReadSector.j0]
      rw [if_pos (by decide)]
  · have hr : rdOk b L at_ = false := by unfold rdOk; rw [Bool.eq_false_iff.2 h1, Bool.false_and]
    rw [if_neg h1, show readM b L at_ = [] from by unfold readM; rw [if_neg (by rw [hr]; decide)], hr]
    rw [spec_ReadSector.j0]
    rw [if_pos rfl]
theorem lastW_snoc (at_ : Int) (d : List Int) (L : List IW) (x : IW) : lastW at_ d (L ++ [x]) = if x.f0 = at_ then x.f1 else lastW at_ d L := by
  unfold lastW; rw [List.foldl_append]; rfl
theorem implRead_loop (b : List Int) (at_ : Int) (L : List IW) (hL : L.length ≤ 140737488351232) (hr : ∀ x ∈ L, x.f1.length = 64) (h0 : 0 ≤ at_) (h1 : at_ < ((b.length / 64 : Nat) : Int)) (hb : b.length ≤ 25600) : ∀ (n : Nat) (k : Nat), n ≤ L.length → n < k →
    impl_ReadSector.l0 k at_ ((n : Int) - 1) b L = some (lastW at_ (secB b at_) (L.take n), true) := by
  intro n
  induction n with
  | zero =>
    intro k hn hk
    obtain ⟨k, rfl⟩ : ∃ m, k = m + 1 := ⟨k - 1, by omega⟩
    simp only [impl_ReadSector.l0]
    have hs : (secB b at_).length ≤ 140737488351232 := by unfold secB; rw [List.length_drop, List.length_take]; omega
    rw [if_neg (by omega), show wrap64 (at_ * 64) = at_ * 64 from wrap_in (by omega) (by omega), show wrap64 (at_ + 1) = at_ + 1 from wrap_in (by omega) (by omega), show wrap64 ((at_ + 1) * 64) = (at_ + 1) * 64 from wrap_in (by omega) (by omega),
      if_pos (by omega), if_pos (by omega), if_pos (by omega)]
    rw [show slices_Clone_byte_byte.f (List.drop (at_ * 64).toNat (List.take ((at_ + 1) * 64).toNat b)) = some (secB b at_) from clone_eq _ hs]
    rfl
  | succ n ih =>
    intro k hn hk
    obtain ⟨k, rfl⟩ : ∃ m, k = m + 1 := ⟨k - 1, by omega⟩
    simp only [impl_ReadSector.l0]
    have ei : (((n + 1 : Nat) : Int) - 1) = (n : Int) := by omega
    have ex : rd_T96 L (n : Int) = L.getD n z96 := by unfold rd_T96; rw [Int.toNat_natCast]
    have h64 := hr _ (getDin (z := z96) (show n < L.length by omega))
    have et : L.take (n + 1) = L.take n ++ [L.getD n z96] := by
      rw [List.take_add_one, List.getD_eq_getElem?_getD, List.getElem?_eq_getElem (show n < L.length by omega)]; rfl
    rw [ei, if_pos (by omega), if_pos (by omega), if_pos (by omega), ex, et, lastW_snoc]
    by_cases h : (L.getD n z96).f0 = at_
    · rw [if_pos h, if_pos h, clone_eq _ (by omega)]; rfl
    · rw [if_neg h, if_neg h, show wrap64 ((n : Int) - 1) = (n : Int) - 1 from wrap_in (by omega) (by omega), ih k (by omega) (by omega)]
theorem implRead_eq (b : List Int) (L : List IW) (at_ : Int) (hb : b.length ≤ 140737488351232) (hL : L.length ≤ 140737488351232) {k : Nat} (hk : L.length + 3 < k) :
    impl_ReadSector.f k b L at_ = some (readM b L at_, rdOk b L at_) := by
  obtain ⟨k, rfl⟩ : ∃ m, k = m + 1 := ⟨k - 1, by omega⟩
  unfold impl_ReadSector.f
  have hi : impl_Disk_isSector.f b at_ = some (decide (0 ≤ at_) && decide (at_ ≤ (b.length : Int) / 64 - 1)) := by
    unfold impl_Disk_isSector.f
    rw [show impl_Disk_sectors.f b = some ((b.length : Int) / 64) by unfold impl_Disk_sectors.f; rw [wrap_in (by omega) (by omega)], Option.bind_some, impl_inRange_eq, Option.bind_some, show wrap64 ((b.length : Int) / 64 - 1) = (b.length : Int) / 64 - 1 from wrap_in (by omega) (by omega)]
  rw [hi, Option.bind_some]
  by_cases h2 : 0 ≤ at_ ∧ at_ < ((b.length / 64 : Nat) : Int)
  · have ht : (decide (0 ≤ at_) && decide (at_ ≤ (b.length : Int) / 64 - 1)) = true := by rw [Bool.and_eq_true, decide_eq_true_eq, decide_eq_true_eq]; omega
    rw [ht, if_pos rfl, implOk_eq b L hb hL (by omega), Option.bind_some]
    by_cases h1 : dOk b L = true
    · obtain ⟨⟨h4, h5, h6⟩, h7⟩ := dOk_iff h1
      have hr : rdOk b L at_ = true := by unfold rdOk; rw [h1, decide_eq_true h2]; rfl
      rw [h1, show readM b L at_ = lastW at_ (secB b at_) L from by unfold readM; rw [if_pos hr], hr]
      rw [impl_ReadSector.j0]
      rw [if_neg (by decide), show wrap64 ((L.length : Int) - 1) = (L.length : Int) - 1 from wrap_in (by omega) (by omega)]
      have e := implRead_loop b at_ L hL (wAll_len h7) h2.1 h2.2 h6 L.length k (Nat.le_refl _) (by omega)
      rw [List.take_length] at e
      exact e
    · have hr : rdOk b L at_ = false := by unfold rdOk; rw [Bool.eq_false_iff.2 h1, Bool.false_and]
      rw [Bool.eq_false_iff.2 h1, show readM b L at_ = [] from by unfold readM; rw [if_neg (by rw [hr]; decide)], hr]
      rw [impl_ReadSector.j0]
      rw [if_pos (by decide)]
  · have hr : rdOk b L at_ = false := by unfold rdOk; rw [decide_eq_false h2, Bool.and_false]
    have ht : (decide (0 ≤ at_) && decide (at_ ≤ (b.length : Int) / 64 - 1)) = false := by rw [Bool.and_eq_false_iff, decide_eq_false_iff_not, decide_eq_false_iff_not]; omega
    rw [ht, if_neg (by decide), show readM b L at_ = [] from by unfold readM; rw [if_neg (by rw [hr]; decide)], hr]
    rw [impl_ReadSector.j0]
    rw [if_pos rfl]
theorem implCopy_loop (L : List IW) (hL : L.length ≤ 2000000) (hr : ∀ x ∈ L, x.f1.length ≤ 1048576) (b : List Int) : ∀ (d i k : Nat), i + d = L.length → d < k →
    impl_copyDisk.l0 k L (L.length : Int) (i : Int) b (L.take i) = some (b, L) := by
  intro d
  induction d with
  | zero =>
    intro i k hi hk
    obtain ⟨k, rfl⟩ : ∃ m, k = m + 1 := ⟨k - 1, by omega⟩
    rw [impl_copyDisk.l0, if_neg (by omega), List.take_of_length_le (by omega)]
  | succ d ih =>
    intro i k hi hk
    obtain ⟨k, rfl⟩ : ∃ m, k = m + 1 := ⟨k - 1, by omega⟩
    have ex : rd_T96 L (i : Int) = L.getD i z96 := by unfold rd_T96; rw [Int.toNat_natCast]
    have h1 := hr _ (getDin (z := z96) (show i < L.length by omega))
    have et : L.take i ++ [(⟨(L.getD i z96).f0, (L.getD i z96).f1⟩ : IW)] = L.take (i + 1) := by
      rw [List.take_add_one, List.getD_eq_getElem?_getD, List.getElem?_eq_getElem (show i < L.length by omega)]; rfl
    rw [impl_copyDisk.l0, if_pos (by omega), if_pos (by omega), if_pos (by omega), ex, clone_eq _ (by omega), Option.bind_some, if_pos (by rw [List.length_take]; omega), et,
      show wrap64 ((i : Int) + 1) = ((i + 1 : Nat) : Int) by rw [wrap_in (by omega) (by omega)]; omega]
    exact ih (i + 1) k (by omega) (by omega)
theorem implCopy_eq (b : List Int) (L : List IW) (hb : b.length ≤ 1048576) (hL : L.length ≤ 2000000) (hr : ∀ x ∈ L, x.f1.length ≤ 1048576) {k : Nat} (hk : L.length < k) : impl_copyDisk.f k b L = some (b, L) := by
  unfold impl_copyDisk.f
  rw [clone_eq b (by omega), Option.bind_some]
  have e := implCopy_loop L hL hr b L.length 0 k (by omega) hk
  rw [show ((0 : Nat) : Int) = 0 from rfl, List.take_zero] at e
  exact e
theorem specCopy_loop (L : List IW) (hL : L.length ≤ 2000000) (hr : ∀ x ∈ L, x.f1.length ≤ 1048576) (c b : List Int) : ∀ (d i k : Nat), i + d = L.length → d < k →
    spec_l11Copy.l0 k (i : Int) c L b (L.take i) = some (b, L) := by
  intro d
  induction d with
  | zero =>
    intro i k hi hk
    obtain ⟨k, rfl⟩ : ∃ m, k = m + 1 := ⟨k - 1, by omega⟩
    rw [spec_l11Copy.l0, if_neg (by omega), List.take_of_length_le (by omega)]
  | succ d ih =>
    intro i k hi hk
    obtain ⟨k, rfl⟩ : ∃ m, k = m + 1 := ⟨k - 1, by omega⟩
    have ex : rd_T96 L (i : Int) = L.getD i z96 := by unfold rd_T96; rw [Int.toNat_natCast]
    have h1 := hr _ (getDin (z := z96) (show i < L.length by omega))
    have et : L.take i ++ [(⟨(L.getD i z96).f0, (L.getD i z96).f1⟩ : IW)] = L.take (i + 1) := by
      rw [List.take_add_one, List.getD_eq_getElem?_getD, List.getElem?_eq_getElem (show i < L.length by omega)]; rfl
    rw [spec_l11Copy.l0, if_pos (by omega), if_pos (by omega), Option.bind_some, ex, if_pos (show ([] : List Int).length + (L.getD i z96).f1.length < 140737488355328 from by rw [List.length_nil]; omega), if_pos (by rw [List.length_take]; omega), List.nil_append, et,
      show wrap64 ((i : Int) + 1) = ((i + 1 : Nat) : Int) by rw [wrap_in (by omega) (by omega)]; omega]
    exact ih (i + 1) k (by omega) (by omega)
theorem specCopy_eq (b : List Int) (L : List IW) (hb : b.length ≤ 1048576) (hL : L.length ≤ 2000000) (hr : ∀ x ∈ L, x.f1.length ≤ 1048576) {k : Nat} (hk : L.length < k) : spec_l11Copy.f k b L = some (b, L) := by
  unfold spec_l11Copy.f
  rw [Option.bind_some, if_pos (show ([] : List Int).length + b.length < 140737488355328 from by rw [List.length_nil]; omega), List.nil_append]
  have e := specCopy_loop L hL hr b b L.length 0 k (by omega) hk
  rw [show ((0 : Nat) : Int) = 0 from rfl, List.take_zero] at e
  exact e
def wrOk (b : List Int) (L : List IW) (at_ : Int) (data : List Int) : Bool := rdOk b L at_ && decide (data.length = 64)
def wrQ (b : List Int) (L : List IW) (at_ : Int) (data : List Int) : List IW := if wrOk b L at_ data = true then L ++ [⟨at_, data⟩] else L
def sy1 (b : List Int) (x : IW) : List Int := spl b (x.f0 * 64).toNat x.f1
def syB (b : List Int) (L : List IW) : List Int := L.foldl sy1 b
def syM (b : List Int) (L : List IW) : List Int := if dOk b L = true then syB b L else b
def syQ (b : List Int) (L : List IW) : List IW := if dOk b L = true then [] else L
def wIn (n : Nat) (x : IW) : Prop := 0 ≤ x.f0 ∧ x.f0 * 64 + 64 ≤ (n : Int) ∧ x.f1.length = 64
theorem wIn_of {n : Nat} {x : IW} (h : wOk (n / 64) x = true) : wIn n x := by
  unfold wOk at h
  rw [Bool.and_eq_true, decide_eq_true_eq, decide_eq_true_eq] at h
  obtain ⟨⟨h1, h2⟩, h3⟩ := h
  exact ⟨h1, by omega, h3⟩
theorem sy1_len {b : List Int} {x : IW} (h : wIn b.length x) : (sy1 b x).length = b.length := by
  obtain ⟨h1, h2, h3⟩ := h
  unfold sy1 spl
  rw [List.length_append, List.length_append, List.length_take, List.length_drop]
  omega
theorem syB_len : ∀ (L : List IW) (b : List Int), (∀ x ∈ L, wIn b.length x) → (syB b L).length = b.length
  | [], b, _ => rfl
  | x :: L, b, h => by
    have hx := sy1_len (h x (by simp))
    show (syB (sy1 b x) L).length = _
    rw [syB_len L (sy1 b x) (fun y hy => by rw [hx]; exact h y (by simp [hy])), hx]
theorem wAll_in {b : List Int} {L : List IW} (h : L.all (wOk (b.length / 64)) = true) : ∀ x ∈ L, wIn b.length x := fun x hx => wIn_of (List.all_eq_true.1 h x hx)
theorem specSync_loop (L : List IW) (hL : L.length ≤ 2000001) (n : Nat) (hn : n ≤ 25600) (hin : ∀ x ∈ L, wIn n x) (c : List Int) : ∀ (d i k : Nat) (b : List Int) (Q : List IW), b.length = n → i + d = L.length → d < k →
    spec_Sync.l0 k (i : Int) c L b Q = some (syB b (L.drop i), []) := by
  intro d
  induction d with
  | zero =>
    intro i k b Q hb hi hk
    obtain ⟨k, rfl⟩ : ∃ m, k = m + 1 := ⟨k - 1, by omega⟩
    rw [spec_Sync.l0, if_neg (by omega), List.drop_eq_nil_of_le (by omega)]; rfl
  | succ d ih =>
    intro i k b Q hb hi hk
    obtain ⟨k, rfl⟩ : ∃ m, k = m + 1 := ⟨k - 1, by omega⟩
    have ex : rd_T96 L (i : Int) = L.getD i z96 := by unfold rd_T96; rw [Int.toNat_natCast]
    have hx := hin _ (getDin (z := z96) (show i < L.length by omega))
    have hl1 := sy1_len (b := b) (x := L.getD i z96) (by rw [hb]; exact hx)
    obtain ⟨h1, h2, h3⟩ := hx
    rw [spec_Sync.l0, if_pos (by omega), if_pos (by omega), ex, dropAt z96 L i (by omega)]
    show _ = some (syB (sy1 b (L.getD i z96)) (L.drop (i + 1)), [])
    generalize L.getD i z96 = x at h1 h2 h3 hl1 ⊢
    rw [show wrap64 (x.f0 * 64) = x.f0 * 64 from wrap_in (by omega) (by omega), if_pos (by omega), if_pos (by omega), show wrap64 ((i : Int) + 1) = ((i + 1 : Nat) : Int) by rw [wrap_in (by omega) (by omega)]; omega]
    exact ih (i + 1) k (sy1 b x) Q (by omega) (by omega) (by omega)
theorem specSync_eq (b : List Int) (L : List IW) (hb : b.length ≤ 1048576) (hL : L.length ≤ 2000000) (hr : ∀ x ∈ L, x.f1.length ≤ 1048576) {k : Nat} (hk : L.length + 3 < k) : spec_Sync.f k b L = some (syM b L, syQ b L) := by
  unfold spec_Sync.f syM syQ
  rw [specCopy_eq b L hb hL hr (by omega), Option.bind_some, specOk_eq b L (by omega) (by omega) (by omega), Option.bind_some]
  by_cases h : dOk b L = true
  · obtain ⟨⟨h4, h5, h6⟩, h7⟩ := dOk_iff h
    rw [if_pos h, if_pos h, if_pos h]
    have e := specSync_loop L (by omega) b.length (by omega) (wAll_in h7) b L.length 0 k b L rfl (by omega) (by omega)
    rw [show ((0 : Nat) : Int) = 0 from rfl, List.drop_zero] at e
    exact e
  · rw [if_neg h, if_neg h, if_neg h]
theorem implSync_loop (L : List IW) (hL : L.length ≤ 2000001) (n : Nat) (hn : n ≤ 25600) (hin : ∀ x ∈ L, wIn n x) : ∀ (d i k : Nat) (b : List Int), b.length = n → i + d = L.length → d < k →
    impl_doneS.l0 k L (L.length : Int) (i : Int) b = some (syB b (L.drop i), []) := by
  intro d
  induction d with
  | zero =>
    intro i k b hb hi hk
    obtain ⟨k, rfl⟩ : ∃ m, k = m + 1 := ⟨k - 1, by omega⟩
    rw [impl_doneS.l0, if_neg (by omega), List.drop_eq_nil_of_le (by omega)]; rfl
  | succ d ih =>
    intro i k b hb hi hk
    obtain ⟨k, rfl⟩ : ∃ m, k = m + 1 := ⟨k - 1, by omega⟩
    have ex : rd_T96 L (i : Int) = L.getD i z96 := by unfold rd_T96; rw [Int.toNat_natCast]
    have hx := hin _ (getDin (z := z96) (show i < L.length by omega))
    have hl1 := sy1_len (b := b) (x := L.getD i z96) (by rw [hb]; exact hx)
    obtain ⟨h1, h2, h3⟩ := hx
    rw [impl_doneS.l0, if_pos (by omega), if_pos (by omega), if_pos (by omega), show impl_SyncOne.f (i : Int) = some true from rfl, Option.bind_some, if_pos rfl, ex, dropAt z96 L i (by omega)]
    show _ = some (syB (sy1 b (L.getD i z96)) (L.drop (i + 1)), [])
    generalize L.getD i z96 = x at h1 h2 h3 hl1 ⊢
    rw [show wrap64 (x.f0 * 64) = x.f0 * 64 from wrap_in (by omega) (by omega), if_pos (by omega), if_pos (by omega), show wrap64 ((i : Int) + 1) = ((i + 1 : Nat) : Int) by rw [wrap_in (by omega) (by omega)]; omega]
    exact ih (i + 1) k (sy1 b x) (by omega) (by omega) (by omega)
theorem implSync_eq (b : List Int) (L : List IW) (hb : b.length ≤ 1048576) (hL : L.length ≤ 2000000) (hr : ∀ x ∈ L, x.f1.length ≤ 1048576) {k : Nat} (hk : L.length + 3 < k) : impl_Sync.f k b L = some (syM b L, syQ b L) := by
  unfold impl_Sync.f syM syQ
  rw [implOk_eq b L (by omega) (by omega) (by omega), Option.bind_some]
  by_cases h : dOk b L = true
  · obtain ⟨⟨h4, h5, h6⟩, h7⟩ := dOk_iff h
    rw [if_pos h, if_pos h, if_pos h]
    have e := implSync_loop L (by omega) b.length (by omega) (wAll_in h7) L.length 0 k b rfl (by omega) (by omega)
    rw [show ((0 : Nat) : Int) = 0 from rfl, List.drop_zero] at e
    rw [show impl_doneS.f k b L = some (syB b L, []) from by unfold impl_doneS.f; rw [clone_eq b (by omega), Option.bind_some]; exact e, Option.bind_some]
  · rw [if_neg h, if_neg h, if_neg h, implCopy_eq b L hb hL hr (by omega), Option.bind_some]
def cn (c : List Int) (i : Nat) : Bool := decide (i / 8 < c.length) && (Go.bits .and .u8 (shr .u8 (rd c ((i / 8 : Nat) : Int)) ((i % 8 : Nat) : Int)) 1 == 1)
theorem tdiv8 (i : Nat) : Int.tdiv ((i : Nat) : Int) 8 = ((i / 8 : Nat) : Int) := rfl
theorem tmod8 (i : Nat) : Int.tmod ((i : Nat) : Int) 8 = ((i % 8 : Nat) : Int) := rfl
theorem w8 (i : Nat) (hi : i ≤ 4294967296) : wrap64 ((i / 8 : Nat) : Int) = ((i / 8 : Nat) : Int) := wrap_in (by omega) (by omega)
theorem u8 (i : Nat) : IntKind.u64.wrap ((i % 8 : Nat) : Int) = ((i % 8 : Nat) : Int) := u64_in (by omega) (by omega)
theorem wS (i : Nat) (hi : i ≤ 4294967296) : wrap64 ((i : Int) + 1) = ((i + 1 : Nat) : Int) := by rw [wrap_in (by omega) (by omega)]; omega
theorem crashOne_eq (c : List Int) (i : Nat) (hi : i ≤ 4294967296) : impl_CrashOne.f (i : Int) c = some (cn c i) := by
  unfold impl_CrashOne.f cn
  rw [tdiv8, tmod8, w8 i hi, u8 i]
  by_cases h : i / 8 < c.length
  · rw [if_pos (by omega), if_pos (by omega), if_pos (by omega), decide_eq_true h, Bool.true_and]
  · rw [if_neg (by omega), decide_eq_false h, Bool.false_and]
def kp (c : List Int) : Nat → List IW → List IW
  | _, [] => []
  | i, x :: L => if cn c i = true then x :: kp c (i + 1) L else kp c (i + 1) L
theorem kp_sub (c : List Int) : ∀ (L : List IW) (i : Nat), ∀ x ∈ kp c i L, x ∈ L
  | [], _, x, h => by cases h
  | y :: L, i, x, h => by
    unfold kp at h
    split at h
    · rcases List.mem_cons.1 h with rfl | h2
      · simp
      · exact List.mem_cons_of_mem _ (kp_sub c L (i + 1) x h2)
    · exact List.mem_cons_of_mem _ (kp_sub c L (i + 1) x h)
def crM (b : List Int) (c : List Int) (L : List IW) : List Int := if dOk b L = true then syB b (kp c 0 L) else b
theorem dOk_kp {b : List Int} {L : List IW} (h : dOk b L = true) (c : List Int) (i : Nat) : dOk b (kp c i L) = true := by
  unfold dOk at h ⊢
  rw [Bool.and_eq_true] at h ⊢
  exact ⟨h.1, List.all_eq_true.2 fun x hx => List.all_eq_true.1 h.2 x (kp_sub c L i x hx)⟩
theorem specCrash_loop (L : List IW) (hL : L.length ≤ 1048576) (hr : ∀ x ∈ L, x.f1.length ≤ 1048576) (b c : List Int) (hb : b.length ≤ 1048576) (b0 : List Int) : ∀ (d i k : Nat) (acc : List IW), i + d = L.length → acc.length ≤ i → (∀ x ∈ acc, x.f1.length ≤ 1048576) → d + L.length + 4 < k →
    spec_Crash.l0 k c acc (i : Int) b0 L b L = some (syM b (acc ++ kp c i (L.drop i)), syQ b (acc ++ kp c i (L.drop i))) := by
  intro d
  induction d with
  | zero =>
    intro i k acc hi ha hra hk
    obtain ⟨k, rfl⟩ : ∃ m, k = m + 1 := ⟨k - 1, by omega⟩
    rw [spec_Crash.l0, if_neg (by omega), List.drop_eq_nil_of_le (by omega)]
    show (spec_Sync.f k b acc).bind _ = some (syM b (acc ++ []), syQ b (acc ++ []))
    rw [List.append_nil, specSync_eq b acc hb (by omega) hra (by omega), Option.bind_some]
  | succ d ih =>
    intro i k acc hi ha hra hk
    obtain ⟨k, rfl⟩ : ∃ m, k = m + 1 := ⟨k - 1, by omega⟩
    have ex : rd_T96 L (i : Int) = L.getD i z96 := by unfold rd_T96; rw [Int.toNat_natCast]
    have hx := hr _ (getDin (z := z96) (show i < L.length by omega))
    rw [spec_Crash.l0, if_pos (by omega)]
    simp only [tdiv8, tmod8, w8 i (show i ≤ 4294967296 by omega), u8, wS i (show i ≤ 4294967296 by omega), ex]
    rw [dropAt z96 L i (by omega)]
    generalize L.getD i z96 = x at hx ⊢
    have hk1 : kp c i (x :: L.drop (i + 1)) = if cn c i = true then x :: kp c (i + 1) (L.drop (i + 1)) else kp c (i + 1) (L.drop (i + 1)) := rfl
    rw [hk1]
    have hn := ih (i + 1) k acc (by omega) (by omega) hra (by omega)
    by_cases h : i / 8 < c.length
    · rw [if_pos (by omega), if_pos (by omega), if_pos (by omega)]
      by_cases h2 : Go.bits .and .u8 (shr .u8 (rd c ((i / 8 : Nat) : Int)) ((i % 8 : Nat) : Int)) 1 = 1
      · have hc : cn c i = true := by unfold cn; rw [h2, decide_eq_true h]; rfl
        rw [if_pos h2, if_pos (by omega), if_pos (by omega), if_pos (by omega), if_pos hc]
        have hy := ih (i + 1) k (acc ++ [x]) (by omega) (by rw [List.length_append, List.length_singleton]; omega) (fun y hy => by
          rcases List.mem_append.1 hy with h3 | h3
          · exact hra y h3
          · rw [List.mem_singleton] at h3; subst h3; exact hx) (by omega)
        rw [List.append_assoc] at hy
        exact hy
      · have hc : ¬ cn c i = true := by
          unfold cn; rw [Bool.and_eq_true, beq_iff_eq]; exact fun q => h2 q.2
        rw [if_neg h2, if_neg hc]
        exact hn
    · have hc : ¬ cn c i = true := by unfold cn; rw [Bool.and_eq_true, decide_eq_true_eq]; exact fun q => h q.1
      rw [if_neg (by omega), if_neg hc]
      exact hn
theorem specCrash_eq (b : List Int) (L : List IW) (c : List Int) (hb : b.length ≤ 1048576) (hL : L.length ≤ 1048576) (hr : ∀ x ∈ L, x.f1.length ≤ 1048576) {k : Nat} (hk : 2 * L.length + 4 < k) : spec_Crash.f k b L c = some (crM b c L, syQ b L) := by
  unfold spec_Crash.f crM syQ
  rw [specCopy_eq b L hb (by omega) hr (by omega), Option.bind_some, specOk_eq b L (by omega) (by omega) (by omega), Option.bind_some]
  by_cases h : dOk b L = true
  · rw [if_pos h, if_pos h, if_pos h]
    have e := specCrash_loop L hL hr b c hb b L.length 0 k [] (by omega) (by simp) (by simp) (by omega)
    rw [show ((0 : Nat) : Int) = 0 from rfl, List.drop_zero, List.nil_append] at e
    have h2 := dOk_kp h c 0
    rw [show syM b (kp c 0 L) = syB b (kp c 0 L) from by unfold syM; rw [if_pos h2], show syQ b (kp c 0 L) = [] from by unfold syQ; rw [if_pos h2]] at e
    exact e
  · rw [if_neg h, if_neg h, if_neg h]
theorem implCrash_loop (L : List IW) (hL : L.length ≤ 1048577) (n : Nat) (hn : n ≤ 25600) (hin : ∀ x ∈ L, wIn n x) (c : List Int) : ∀ (d i k : Nat) (b : List Int), b.length = n → i + d = L.length → d < k →
    impl_done.l0 k c L (L.length : Int) (i : Int) b = some (syB b (kp c i (L.drop i)), []) := by
  intro d
  induction d with
  | zero =>
    intro i k b hb hi hk
    obtain ⟨k, rfl⟩ : ∃ m, k = m + 1 := ⟨k - 1, by omega⟩
    rw [impl_done.l0, if_neg (by omega), List.drop_eq_nil_of_le (by omega)]; rfl
  | succ d ih =>
    intro i k b hb hi hk
    obtain ⟨k, rfl⟩ : ∃ m, k = m + 1 := ⟨k - 1, by omega⟩
    have ex : rd_T96 L (i : Int) = L.getD i z96 := by unfold rd_T96; rw [Int.toNat_natCast]
    have hx := hin _ (getDin (z := z96) (show i < L.length by omega))
    have hl1 := sy1_len (b := b) (x := L.getD i z96) (by rw [hb]; exact hx)
    obtain ⟨h1, h2, h3⟩ := hx
    rw [impl_done.l0, if_pos (by omega), if_pos (by omega), if_pos (by omega), crashOne_eq c i (by omega), Option.bind_some, ex, dropAt z96 L i (by omega)]
    simp only [wS i (show i ≤ 4294967296 by omega)]
    generalize L.getD i z96 = x at h1 h2 h3 hl1 ⊢
    have hk1 : kp c i (x :: L.drop (i + 1)) = if cn c i = true then x :: kp c (i + 1) (L.drop (i + 1)) else kp c (i + 1) (L.drop (i + 1)) := rfl
    rw [hk1]
    by_cases hc : cn c i = true
    · rw [if_pos hc, if_pos hc]
      simp only [show wrap64 (x.f0 * 64) = x.f0 * 64 from wrap_in (by omega) (by omega)]
      rw [if_pos (by omega), if_pos (by omega)]
      exact ih (i + 1) k (sy1 b x) (by omega) (by omega) (by omega)
    · rw [if_neg hc, if_neg hc]
      exact ih (i + 1) k b hb (by omega) (by omega)
theorem implCrash_eq (b : List Int) (L : List IW) (c : List Int) (hb : b.length ≤ 1048576) (hL : L.length ≤ 1048576) (hr : ∀ x ∈ L, x.f1.length ≤ 1048576) {k : Nat} (hk : L.length + 3 < k) : impl_Crash.f k b L c = some (crM b c L, syQ b L) := by
  unfold impl_Crash.f crM syQ
  rw [implOk_eq b L (by omega) (by omega) (by omega), Option.bind_some]
  by_cases h : dOk b L = true
  · obtain ⟨⟨h4, h5, h6⟩, h7⟩ := dOk_iff h
    rw [if_pos h, if_pos h, if_pos h]
    have e := implCrash_loop L (by omega) b.length (by omega) (wAll_in h7) c L.length 0 k b rfl (by omega) (by omega)
    rw [show ((0 : Nat) : Int) = 0 from rfl, List.drop_zero] at e
    rw [show impl_done.f k b L c = some (syB b (kp c 0 L), []) from by unfold impl_done.f; rw [clone_eq b (by omega), Option.bind_some]; exact e, Option.bind_some]
  · rw [if_neg h, if_neg h, if_neg h, implCopy_eq b L hb (by omega) hr (by omega), Option.bind_some]
theorem u64_mod' (x : Int) : IntKind.u64.wrap x = x % 18446744073709551616 := by simp [IntKind.wrap, IntKind.bits, IntKind.signed]
/-- the four low bytes -/
def lowB (x : Int) : List Int := [x % 256, x / 256 % 256, x / 65536 % 256, x / 16777216 % 256]
theorem l8Bytes_four (k : Nat) (x : Int) : spec_l8Bytes.f (k + 5) x 4 = some (lowB x) := by
  unfold spec_l8Bytes.f
  rw [u64_mod']
  have e1 : x % 18446744073709551616 % 256 = x % 256 := by omega
  have e2 : x % 18446744073709551616 / 256 % 256 = x / 256 % 256 := by omega
  have e3 : x % 18446744073709551616 / 256 / 256 % 256 = x / 65536 % 256 := by omega
  have e4 : x % 18446744073709551616 / 256 / 256 / 256 % 256 = x / 16777216 % 256 := by omega
  have w1 : wrap64 (0 + 1) = 1 := wrap_in (by decide) (by decide)
  have w2 : wrap64 (1 + 1) = 2 := wrap_in (by decide) (by decide)
  have w3 : wrap64 (2 + 1) = 3 := wrap_in (by decide) (by decide)
  have w4 : wrap64 (3 + 1) = 4 := wrap_in (by decide) (by decide)
  unfold spec_l8Bytes.l0; rw [if_pos (by decide), if_pos (by simp), w1]
  unfold spec_l8Bytes.l0; rw [if_pos (by decide), if_pos (by simp), w2]
  unfold spec_l8Bytes.l0; rw [if_pos (by decide), if_pos (by simp), w3]
  unfold spec_l8Bytes.l0; rw [if_pos (by decide), if_pos (by simp), w4]
  unfold spec_l8Bytes.l0; rw [if_neg (by decide)]
  rw [e1, e2, e3, e4]; rfl
theorem shr_i (x : Int) {j : Nat} (hj : j ≤ 32) : shr .i64 x (IntKind.u64.wrap (wrap64 (j : Int))) = x / 2 ^ j := by
  rw [wrap_in (by omega) (by omega), u64_mod', Int.emod_eq_of_lt (by omega) (by omega)]; unfold shr; rw [Int.toNat_natCast, Nat.min_eq_left (by simp [IntKind.bits]; omega)]
theorem putLow_four (k : Nat) (l : List Int) (x : Int) (hl : l.length + 4 < 140737488355328) : impl_putLow.f (k + 5) l x 4 = some (l ++ lowB x) := by
  unfold impl_putLow.f
  have w1 : wrap64 (0 + 1) = 1 := wrap_in (by decide) (by decide)
  have w2 : wrap64 (1 + 1) = 2 := wrap_in (by decide) (by decide)
  have w3 : wrap64 (2 + 1) = 3 := wrap_in (by decide) (by decide)
  have w4 : wrap64 (3 + 1) = 4 := wrap_in (by decide) (by decide)
  have s0 : shr .i64 x (IntKind.u64.wrap (wrap64 (8 * 0))) = x := by have := shr_i x (j := 0) (by omega); simpa using this
  have s1 : shr .i64 x (IntKind.u64.wrap (wrap64 (8 * 1))) = x / 256 := shr_i x (j := 8) (by omega)
  have s2 : shr .i64 x (IntKind.u64.wrap (wrap64 (8 * 2))) = x / 65536 := shr_i x (j := 16) (by omega)
  have s3 : shr .i64 x (IntKind.u64.wrap (wrap64 (8 * 3))) = x / 16777216 := shr_i x (j := 24) (by omega)
  unfold impl_putLow.l0; rw [if_pos (by decide), if_pos (by decide +kernel), if_pos (by omega), w1, s0]
  unfold impl_putLow.l0; rw [if_pos (by decide), if_pos (by decide +kernel), if_pos (by simp; omega), w2, s1]
  unfold impl_putLow.l0; rw [if_pos (by decide), if_pos (by decide +kernel), if_pos (by simp; omega), w3, s2]
  unfold impl_putLow.l0; rw [if_pos (by decide), if_pos (by decide +kernel), if_pos (by simp; omega), w4, s3]
  unfold impl_putLow.l0; rw [if_neg (by decide)]
  simp [lowB]
def sumStep (s b : Int) : Int := ((s.toNat ^^^ (b % 4294967296).toNat : Nat) : Int) * 16777619 % 4294967296
def sumF : Int → List Int → Int
  | s, [] => s
  | s, b :: l => sumF (sumStep s b) l
theorem sumStep_in (s b : Int) : 0 ≤ sumStep s b ∧ sumStep s b < 4294967296 := by unfold sumStep; omega
theorem ofInt_nat (w : Nat) (x : Int) : (BitVec.ofInt w x).toNat = (x % (2 ^ w : Nat)).toNat := BitVec.toNat_ofInt x
theorem xor32 (s b : Int) (h0 : 0 ≤ s) (h1 : s < 4294967296) : Go.bits .xor .u32 s (b % 4294967296) = ((s.toNat ^^^ (b % 4294967296).toNat : Nat) : Int) := by
  have hlt : s.toNat ^^^ (b % 4294967296).toNat < 2 ^ 32 := Nat.xor_lt_two_pow (by omega) (by omega)
  show IntKind.u32.wrap (((BitVec.ofInt 32 s ^^^ BitVec.ofInt 32 (b % 4294967296)).toNat : Nat) : Int) = _
  rw [BitVec.toNat_xor, ofInt_nat, ofInt_nat]
  rw [show s % ((2 ^ 32 : Nat) : Int) = s from Int.emod_eq_of_lt h0 (by omega), show b % 4294967296 % ((2 ^ 32 : Nat) : Int) = b % 4294967296 from by omega]
  simp only [IntKind.wrap, IntKind.bits, IntKind.signed]
  generalize (s.toNat ^^^ (b % 4294967296).toNat) = z at *
  simp; omega
theorem xor64 (s b : Int) (h0 : 0 ≤ s) (h1 : s < 4294967296) : Go.bits .xor .u64 s (IntKind.u64.wrap b) = ((s.toNat ^^^ (b % 18446744073709551616).toNat : Nat) : Int) := by
  have hlt : s.toNat ^^^ (b % 18446744073709551616).toNat < 2 ^ 64 := Nat.xor_lt_two_pow (by omega) (by omega)
  rw [u64_mod']
  show IntKind.u64.wrap (((BitVec.ofInt 64 s ^^^ BitVec.ofInt 64 (b % 18446744073709551616)).toNat : Nat) : Int) = _
  rw [BitVec.toNat_xor, ofInt_nat, ofInt_nat]
  rw [show s % ((2 ^ 64 : Nat) : Int) = s from Int.emod_eq_of_lt h0 (by omega), show b % 18446744073709551616 % ((2 ^ 64 : Nat) : Int) = b % 18446744073709551616 from by omega]
  simp only [IntKind.wrap, IntKind.bits, IntKind.signed]
  generalize (s.toNat ^^^ (b % 18446744073709551616).toNat) = z at *
  simp; omega
theorem step32 (s b : Int) (h0 : 0 ≤ s) (h1 : s < 4294967296) : (Go.bits .xor .u32 s (b % 4294967296) * 16777619) % 4294967296 = sumStep s b := by
  rw [xor32 s b h0 h1]; rfl
theorem step64 (s b : Int) (h0 : 0 ≤ s) (h1 : s < 4294967296) : Int.tmod (IntKind.u64.wrap (Go.bits .xor .u64 s (IntKind.u64.wrap b) * 16777619)) 4294967296 = sumStep s b := by
  rw [xor64 s b h0 h1, u64_mod']
  have hx : (s.toNat ^^^ (b % 18446744073709551616).toNat) % 4294967296 = s.toNat ^^^ (b % 4294967296).toNat := by
    have := Nat.xor_mod_two_pow (a := s.toNat) (b := (b % 18446744073709551616).toNat) (n := 32)
    rw [show (2 : Nat) ^ 32 = 4294967296 from rfl] at this
    rw [this, Nat.mod_eq_of_lt (show s.toNat < 4294967296 by omega)]
    congr 1
    omega
  unfold sumStep
  rw [← hx]
  generalize (s.toNat ^^^ (b % 18446744073709551616).toNat) = z
  rw [Int.tmod_eq_emod_of_nonneg (by omega)]
  omega
theorem rd_drop {l : List Int} {n : Nat} {u : Int} {r : List Int} (h : l.drop n = u :: r) : rd l (n : Int) = u := by
  unfold rd
  have := congrArg List.head? h
  rw [List.head?_drop] at this
  simp [List.getD, this]
theorem drop_succ {l : List Int} {n : Nat} {u : Int} {r : List Int} (h : l.drop n = u :: r) : l.drop (n + 1) = r := by
  have e : l.drop (n + 1) = (l.drop n).drop 1 := by rw [List.drop_drop]
  rw [e, h]; rfl
theorem specSum_loop (l : List Int) (hl : l.length < 4611686018427387904) : ∀ (r : List Int) (n : Nat) (s : Int) (k : Nat), l.drop n = r → n ≤ l.length → 0 ≤ s → s < 4294967296 → r.length < k → spec_l12Sum.l0 k l s (n : Int) = some (sumF s r) := by
  intro r
  induction r with
  | nil =>
    intro n s k hd hn h0 h1 hk
    cases k with
    | zero => simp at hk
    | succ k =>
      have : l.length - n = 0 := by rw [← List.length_drop, hd]; rfl
      unfold spec_l12Sum.l0
      rw [if_neg (by omega), wrap_in (by omega) (by omega)]; rfl
  | cons u r ih =>
    intro n s k hd hn h0 h1 hk
    cases k with
    | zero => simp at hk
    | succ k =>
      have hlen : l.length - n = r.length + 1 := by rw [← List.length_drop, hd]; rfl
      unfold spec_l12Sum.l0
      rw [if_pos (by omega), if_pos (by omega), rd_drop hd, step64 s u h0 h1, wrap_in (by omega) (by omega), show (n : Int) + 1 = ((n + 1 : Nat) : Int) from by omega]
      exact ih (n + 1) _ k (drop_succ hd) (by omega) (sumStep_in s u).1 (sumStep_in s u).2 (by simp at hk; omega)
theorem implSum_loop (l : List Int) (hl : l.length < 4611686018427387904) : ∀ (r : List Int) (n : Nat) (s : Int) (k : Nat), l.drop n = r → n ≤ l.length → 0 ≤ s → s < 4294967296 → r.length < k → impl_sumOf.l0 k s l (l.length : Int) (n : Int) = some (sumF s r) := by
  intro r
  induction r with
  | nil =>
    intro n s k hd hn h0 h1 hk
    cases k with
    | zero => simp at hk
    | succ k =>
      have : l.length - n = 0 := by rw [← List.length_drop, hd]; rfl
      unfold impl_sumOf.l0
      rw [if_neg (by omega), wrap_in (by omega) (by omega)]; rfl
  | cons u r ih =>
    intro n s k hd hn h0 h1 hk
    cases k with
    | zero => simp at hk
    | succ k =>
      have hlen : l.length - n = r.length + 1 := by rw [← List.length_drop, hd]; rfl
      unfold impl_sumOf.l0
      rw [if_pos (by omega), if_pos (by omega), if_pos (by omega), rd_drop hd, step32 s u h0 h1, wrap_in (by omega) (by omega), show (n : Int) + 1 = ((n + 1 : Nat) : Int) from by omega]
      exact ih (n + 1) _ k (drop_succ hd) (by omega) (sumStep_in s u).1 (sumStep_in s u).2 (by simp at hk; omega)
theorem specSum_eq (l : List Int) (hl : l.length < 4611686018427387904) {k : Nat} (hk : l.length < k) : spec_l12Sum.f k l = some (sumF 2166136261 l) :=
  specSum_loop l hl l 0 _ k rfl (by omega) (by decide) (by decide) hk
theorem implSum_eq (l : List Int) (hl : l.length < 4611686018427387904) {k : Nat} (hk : l.length < k) : impl_sumOf.f k l = some (sumF 2166136261 l) :=
  implSum_loop l hl l 0 _ k rfl (by omega) (by decide) (by decide) hk
/-- a log sector's bytes -/
def lsHead (e n kind : Int) (p : List Int) : List Int := lowB e ++ lowB n ++ [kind, (p.length : Int) % 256] ++ List.replicate 6 0 ++ p ++ List.replicate (44 - p.length) 0
def lsB (e n kind : Int) (p : List Int) : List Int := lsHead e n kind p ++ lowB (sumF 2166136261 (lsHead e n kind p))
theorem lsHead_len (e n kind : Int) (p : List Int) (hp : p.length ≤ 44) : (lsHead e n kind p).length = 60 := by
  simp [lsHead, lowB]; omega
theorem lsB_len (e n kind : Int) (p : List Int) (hp : p.length ≤ 44) : (lsB e n kind p).length = 64 := by
  unfold lsB; rw [List.length_append, lsHead_len _ _ _ _ hp]; rfl
theorem implSector_eq (e n kind : Int) (p : List Int) (hp : p.length ≤ 44) {k : Nat} (hk : 100 ≤ k) : impl_sector_bytes.f k e n kind p = some (lsB e n kind p) := by
  obtain ⟨k, rfl⟩ : ∃ q, k = q + 5 := ⟨k - 5, by omega⟩
  unfold impl_sector_bytes.f
  rw [putLow_four k [] e (by decide), Option.bind_some, putLow_four k _ n (by simp [lowB]), Option.bind_some, Option.bind_some]
  rw [if_pos (by simp [lowB]), Option.bind_some]
  have w1 : wrap64 (16 - ((([] ++ lowB e ++ lowB n ++ [kind, (p.length : Int) % 256] : List Int)).length : Int)) = 6 := by
    rw [show (([] ++ lowB e ++ lowB n ++ [kind, (p.length : Int) % 256] : List Int)).length = 10 from rfl]; exact wrap_in (by decide) (by decide)
  rw [w1, if_pos (by decide), if_pos (by simp [lowB]), Option.bind_some, show ((6 : Int)).toNat = 6 from rfl]
  rw [if_pos (by simp [lowB]; omega), Option.bind_some]
  have l2 : ([] ++ lowB e ++ lowB n ++ [kind, (p.length : Int) % 256] ++ List.replicate 6 0 ++ p : List Int).length = 16 + p.length := by simp [lowB]; omega
  have w2 : wrap64 (60 - ((([] ++ lowB e ++ lowB n ++ [kind, (p.length : Int) % 256] ++ List.replicate 6 0 ++ p : List Int)).length : Int)) = ((44 - p.length : Nat) : Int) := by
    rw [l2, wrap_in (by omega) (by omega)]; omega
  rw [w2, if_pos (by omega), if_pos (by rw [l2]; simp; omega), Option.bind_some, Int.toNat_natCast]
  have hh : ([] ++ lowB e ++ lowB n ++ [kind, (p.length : Int) % 256] ++ List.replicate 6 0 ++ p ++ List.replicate (44 - p.length) 0 : List Int) = lsHead e n kind p := by unfold lsHead; rw [List.nil_append]
  rw [hh, implSum_eq _ (by rw [lsHead_len _ _ _ _ hp]; omega) (by rw [lsHead_len _ _ _ _ hp]; omega), Option.bind_some, putLow_four k _ _ (by rw [lsHead_len _ _ _ _ hp]; omega), Option.bind_some]
  rfl
theorem specSector_eq (e n : Int) (m : Bool) (p : List Int) (hp : p.length ≤ 44) {k : Nat} (hk : 100 ≤ k) : spec_l12Sector.f k e n m p = some (lsB e n (if m then 1 else 2) p) := by
  obtain ⟨k, rfl⟩ : ∃ q, k = q + 5 := ⟨k - 5, by omega⟩
  unfold spec_l12Sector.f
  rw [l8Bytes_four k e, Option.bind_some, l8Bytes_four k n, Option.bind_some, if_pos (by simp [lowB]), Option.bind_some]
  have w2 : wrap64 (44 - (p.length : Int)) = ((44 - p.length : Nat) : Int) := by
    rw [wrap_in (by omega) (by omega)]; omega
  have body : ∀ kind : Int, ((some (([kind, ((p.length : Int)) % 256] : List Int) : List Int)).bind fun y149 => (if (lowB e ++ lowB n).length + y149.length < 140737488355328 then ((some ((lowB e ++ lowB n) ++ y149 : List Int)).bind fun y152 => (if y152.length + 6 < 140737488355328 then ((some (y152 ++ List.replicate 6 0 : List Int)).bind fun y155 => (if y155.length + p.length < 140737488355328 then ((some (y155 ++ p : List Int)).bind fun y158 => (if 0 ≤ (wrap64 (44 - (p.length : Int))) then (if y158.length + (wrap64 (44 - (p.length : Int)) : Int).toNat < 140737488355328 then ((some (y158 ++ List.replicate (wrap64 (44 - (p.length : Int)) : Int).toNat 0 : List Int)).bind fun y161 => ((spec_l12Sum.f (k + 5) y161).bind fun t164 => ((spec_l8Bytes.f (k + 5) t164 4).bind fun t165 => (if y161.length + t165.length < 140737488355328 then (some (y161 ++ t165)) else (none))))) else (none)) else (none))) else (none))) else (none))) else (none))) = some (lsB e n kind p) := by
    intro kind
    rw [Option.bind_some, if_pos (by simp [lowB]), Option.bind_some, if_pos (by simp [lowB]), Option.bind_some, if_pos (by simp [lowB]; omega), Option.bind_some, w2, if_pos (by omega), if_pos (by simp [lowB]; omega), Option.bind_some, Int.toNat_natCast]
    have hh : (lowB e ++ lowB n ++ [kind, (p.length : Int) % 256] ++ List.replicate 6 0 ++ p ++ List.replicate (44 - p.length) 0 : List Int) = lsHead e n kind p := rfl
    rw [hh, specSum_eq _ (by rw [lsHead_len _ _ _ _ hp]; omega) (by rw [lsHead_len _ _ _ _ hp]; omega), Option.bind_some, l8Bytes_four, Option.bind_some, if_pos (by rw [lsHead_len _ _ _ _ hp]; simp [lowB])]
    rfl
  cases m with
  | true => rw [if_pos rfl, if_pos rfl]; exact body 1
  | false => rw [if_neg (by decide), if_neg (by decide)]; exact body 2
/-- the piece of a record that its sector number i holds -/
theorem l1In_eq (a b c : Int) : spec_l1In.f a b c = some (decide (b ≤ a ∧ a ≤ c)) := by
  unfold spec_l1In.f
  by_cases h : a ≥ b
  · rw [if_pos h]; congr 1; exact decide_eq_decide.2 ⟨fun q => ⟨h, q⟩, fun q => q.2⟩
  · rw [if_neg h]; congr 1; exact (decide_eq_false (fun q => h q.1)).symm
theorem inRange_eq (a b c : Int) : impl_inRange.f a b c = some (decide (b ≤ a ∧ a ≤ c)) := by
  unfold impl_inRange.f
  by_cases h : a ≥ b
  · rw [if_pos h]; congr 1; exact decide_eq_decide.2 ⟨fun q => ⟨h, q⟩, fun q => q.2⟩
  · rw [if_neg h]; congr 1; exact (decide_eq_false (fun q => h q.1)).symm
/-- whether a log is one of a disk -/
theorem specRegion_eq {k : Nat} {b : List Int} {L : List S96} {D : Bool} (a0 a1 : Int) (hb : b.length ≤ 140737488351232) (hD : spec_DiskOk.f k b L = some D) : spec_l12Region.f k b L a0 a1 = some (D && decide (0 ≤ a0 ∧ a0 ≤ a1 ∧ a1 < ((b.length / 64 : Nat) : Int))) := by
  unfold spec_l12Region.f spec_l11Many.f
  rw [hD, Option.bind_some]
  cases D with
  | false => rfl
  | true =>
    rw [if_pos rfl, l1In_eq, Option.bind_some, wrap_in (by omega) (by omega), Option.bind_some, Bool.true_and]
    by_cases h : 0 ≤ a0 ∧ a0 ≤ a1
    · rw [if_pos (decide_eq_true h)]
      congr 1
      exact decide_eq_decide.2 ⟨fun q => ⟨h.1, h.2, by omega⟩, fun q => by omega⟩
    · rw [if_neg (by rw [decide_eq_true_eq]; exact h)]
      congr 1
      exact (decide_eq_false (fun q => h ⟨q.1, q.2.1⟩)).symm
theorem implRegion_eq {k : Nat} {b : List Int} {L : List S96} {D : Bool} (a0 a1 : Int) (hb : b.length ≤ 140737488351232) (hD : impl_DiskOk.f k b L = some D) : impl_canOpen.f k b L a0 a1 = some (D && decide (0 ≤ a0 ∧ a0 ≤ a1 ∧ a1 < ((b.length / 64 : Nat) : Int))) := by
  unfold impl_canOpen.f impl_Disk_isSector.f impl_Disk_sectors.f
  rw [Option.bind_some, inRange_eq, Option.bind_some, Option.bind_some, hD, Option.bind_some, wrap_in (x := (b.length : Int) / 64) (by omega) (by omega), wrap_in (by omega) (by omega)]
  by_cases h0 : a0 ≥ 0
  · rw [if_pos h0]
    by_cases h1 : a0 ≤ a1
    · rw [if_pos h1]
      by_cases h2 : a1 < ((b.length / 64 : Nat) : Int)
      · rw [if_pos (by rw [decide_eq_true_eq]; omega), decide_eq_true (show 0 ≤ a0 ∧ a0 ≤ a1 ∧ a1 < ((b.length / 64 : Nat) : Int) from ⟨h0, h1, h2⟩), Bool.and_true]
      · rw [if_neg (by rw [decide_eq_true_eq]; omega), decide_eq_false (fun q => h2 q.2.2), Bool.and_false]
    · rw [if_neg h1, decide_eq_false (fun q => h1 q.2.1), Bool.and_false]
  · rw [if_neg h0, decide_eq_false (fun q => h0 q.1), Bool.and_false]
def pieceAt (l : List Int) (i : Nat) : List Int := (l.drop (i * 44)).take 44
theorem pieceAt_len (l : List Int) (i : Nat) : (pieceAt l i).length ≤ 44 := by unfold pieceAt; rw [List.length_take]; omega
def wOne (a0 a2 a3 : Int) (l : List Int) (n i : Nat) : S96 := ⟨wrap64 ((wrap64 (a0 + a2)) + (i : Int)), lsB a3 (wrap64 (a2 + (i : Int))) (if i + 1 < n then 1 else 2) (pieceAt l i)⟩
def lwAll (a0 a2 a3 : Int) (l : List Int) (n : Nat) : Nat → Nat → List S96
  | 0, _ => []
  | d + 1, i => wOne a0 a2 a3 l n i :: lwAll a0 a2 a3 l n d (i + 1)
theorem lwAll_len (a0 a2 a3 : Int) (l : List Int) (n : Nat) : ∀ d i, (lwAll a0 a2 a3 l n d i).length = d
  | 0, _ => rfl
  | d + 1, i => by show (lwAll a0 a2 a3 l n d (i + 1)).length + 1 = d + 1; rw [lwAll_len]
/-- how many pieces -/
def nP (l : List Int) : Nat := max ((l.length + 43) / 44) 1
theorem piece_spec (l : List Int) (i : Nat) : ((l.take (min ((i + 1) * 44) l.length)).drop (i * 44)) = pieceAt l i := by
  unfold pieceAt
  rw [List.drop_take]
  by_cases h : (i + 1) * 44 ≤ l.length
  · rw [Nat.min_eq_left h]; congr 1; omega
  · rw [Nat.min_eq_right (by omega), List.take_of_length_le (by rw [List.length_drop]; omega), List.take_of_length_le (by rw [List.length_drop]; omega)]
theorem specWr_loop (a0 a1 a2 a3 : Int) (l : List Int) (n : Nat) (hn : n ≤ 100) (hl : l.length ≤ 4000) (hnl : (n - 1) * 44 ≤ l.length) : ∀ (d i k : Nat) (acc : List S96), i + d = n → acc.length + d ≤ 1000 → d + 200 ≤ k → spec_LogWrites.l0 k l acc (n : Int) (i : Int) a0 a1 a2 a3 = some (acc ++ lwAll a0 a2 a3 l n d i) := by
  intro d
  induction d with
  | zero =>
    intro i k acc hi ha hk
    obtain ⟨k, rfl⟩ : ∃ q, k = q + 1 := ⟨k - 1, by omega⟩
    unfold spec_LogWrites.l0
    rw [if_neg (by omega)]
    show some acc = some (acc ++ [])
    rw [List.append_nil]
  | succ d ih =>
    intro i k acc hi ha hk
    obtain ⟨k, rfl⟩ : ∃ q, k = q + 1 := ⟨k - 1, by omega⟩
    unfold spec_LogWrites.l0
    have w1 : wrap64 ((i : Int) + 1) = ((i + 1 : Nat) : Int) := by rw [wrap_in (by omega) (by omega)]; omega
    have w2 : wrap64 (((i + 1 : Nat) : Int) * 44) = (((i + 1) * 44 : Nat) : Int) := by rw [wrap_in (by omega) (by omega)]; omega
    have w3 : wrap64 ((i : Int) * 44) = ((i * 44 : Nat) : Int) := by rw [wrap_in (by omega) (by omega)]; omega
    have hm : spec_l4Min.f (((i + 1) * 44 : Nat) : Int) (l.length : Int) = some ((min ((i + 1) * 44) l.length : Nat) : Int) := by
      unfold spec_l4Min.f
      by_cases h : (((i + 1) * 44 : Nat) : Int) < (l.length : Int)
      · rw [if_pos h, Nat.min_eq_left (by omega)]
      · rw [if_neg h, Nat.min_eq_right (by omega)]
    have hil : i * 44 ≤ l.length := by
      have : i ≤ n - 1 := by omega
      have := Nat.mul_le_mul_right 44 this; omega
    rw [if_pos (by omega), w1, w2, hm, Option.bind_some, w3, if_pos (by omega), if_pos (by omega), if_pos (by omega), Int.toNat_natCast, Int.toNat_natCast, piece_spec, specSector_eq _ _ _ _ (pieceAt_len l i) (by omega), Option.bind_some, if_pos (by omega)]
    have e : (if (decide (((i + 1 : Nat) : Int) < (n : Int))) = true then (1 : Int) else 2) = if i + 1 < n then 1 else 2 := by
      by_cases h : i + 1 < n
      · rw [if_pos h, if_pos (by rw [decide_eq_true_eq]; omega)]
      · rw [if_neg h, if_neg (by rw [decide_eq_true_eq]; omega)]
    rw [e]
    have := ih (i + 1) k (acc ++ [wOne a0 a2 a3 l n i]) (by omega) (by rw [List.length_append, List.length_singleton]; omega) (by omega)
    rw [List.append_assoc] at this
    exact this
theorem implWr_loop (a0 a1 a2 a3 : Int) (l : List Int) (n : Nat) (hn : n ≤ 100) (h1 : 1 ≤ n) (hl : l.length ≤ 4000) (hnl : (n - 1) * 44 ≤ l.length) (hln : l.length ≤ n * 44) : ∀ (d i k : Nat) (acc : List S96), i + d = n → acc.length + d ≤ 1000 → d + 200 ≤ k → impl_LogWrites.l0 k l (n : Int) acc (n : Int) (i : Int) a0 a1 a2 a3 = some (acc ++ lwAll a0 a2 a3 l n d i) := by
  intro d
  induction d with
  | zero =>
    intro i k acc hi ha hk
    obtain ⟨k, rfl⟩ : ∃ q, k = q + 1 := ⟨k - 1, by omega⟩
    unfold impl_LogWrites.l0
    rw [if_neg (by omega)]
    show some acc = some (acc ++ [])
    rw [List.append_nil]
  | succ d ih =>
    intro i k acc hi ha hk
    obtain ⟨k, rfl⟩ : ∃ q, k = q + 1 := ⟨k - 1, by omega⟩
    unfold impl_LogWrites.l0
    have w1 : wrap64 ((i : Int) + 1) = ((i + 1 : Nat) : Int) := by rw [wrap_in (by omega) (by omega)]; omega
    have w3 : wrap64 ((i : Int) * 44) = ((i * 44 : Nat) : Int) := by rw [wrap_in (by omega) (by omega)]; omega
    have w4 : wrap64 ((n : Int) - 1) = ((n - 1 : Nat) : Int) := by rw [wrap_in (by omega) (by omega)]; omega
    have hil : i * 44 ≤ l.length := by
      have : i ≤ n - 1 := by omega
      have := Nat.mul_le_mul_right 44 this; omega
    have hih := ih (i + 1) k (acc ++ [wOne a0 a2 a3 l n i]) (by omega) (by rw [List.length_append, List.length_singleton]; omega) (by omega)
    rw [List.append_assoc] at hih
    rw [if_pos (by omega), w3, if_pos (by omega), if_pos (by omega), w4, Int.toNat_natCast, w1]
    by_cases hlast : (i : Int) = ((n - 1 : Nat) : Int)
    · rw [if_pos hlast]
      have hp : l.drop (i * 44) = pieceAt l i := by
        unfold pieceAt
        rw [List.take_of_length_le]
        rw [List.length_drop]
        have : n = i + 1 := by omega
        subst this; omega
      rw [hp, implSector_eq _ _ _ _ (pieceAt_len l i) (by omega), Option.bind_some, if_pos (by omega)]
      have e : wOne a0 a2 a3 l n i = ⟨wrap64 ((wrap64 (a0 + a2)) + (i : Int)), lsB a3 (wrap64 (a2 + (i : Int))) 2 (pieceAt l i)⟩ := by unfold wOne; rw [if_neg (by omega)]
      rw [e] at hih
      exact hih.trans (by rw [← e]; rfl)
    · rw [if_neg hlast]
      have hge : i + 1 ≤ n - 1 := by omega
      have := Nat.mul_le_mul_right 44 hge
      rw [if_pos (by rw [List.length_drop]; omega)]
      rw [show (l.drop (i * 44)).take 44 = pieceAt l i from rfl, implSector_eq _ _ _ _ (pieceAt_len l i) (by omega), Option.bind_some, if_pos (by omega)]
      have e : wOne a0 a2 a3 l n i = ⟨wrap64 ((wrap64 (a0 + a2)) + (i : Int)), lsB a3 (wrap64 (a2 + (i : Int))) 1 (pieceAt l i)⟩ := by unfold wOne; rw [if_pos (by omega)]
      rw [e] at hih
      exact hih.trans (by rw [← e]; rfl)
/-- the room that a log has left -/
def roomL (a0 a1 a2 : Int) : Int := if (wrap64 ((wrap64 ((wrap64 (a1 - a0)) + 1)) - a2)) < 0 then 0 else wrap64 ((wrap64 ((wrap64 (a1 - a0)) + 1)) - a2)
def fineL (a0 a1 a2 a3 : Int) : Bool := decide (0 ≤ a0 ∧ a0 ≤ a1 ∧ a1 < 400 ∧ 0 ≤ a2 ∧ a2 ≤ wrap64 ((wrap64 (a1 - a0)) + 1) ∧ 1 ≤ a3 ∧ a3 ≤ 1000000)
theorem fineL_eq (a0 a1 a2 a3 : Int) : spec_l12Fine.f a0 a1 a2 a3 = some (fineL a0 a1 a2 a3) := by
  unfold spec_l12Fine.f fineL
  rw [l1In_eq, l1In_eq, l1In_eq, Option.bind_some]
  by_cases h1 : 0 ≤ a0 ∧ a0 ≤ a1
  · rw [if_pos (decide_eq_true h1)]
    by_cases h2 : a1 < 400
    · rw [if_pos h2, Option.bind_some]
      by_cases h3 : 0 ≤ a2 ∧ a2 ≤ wrap64 ((wrap64 (a1 - a0)) + 1)
      · rw [if_pos (decide_eq_true h3), Option.bind_some]
        congr 1
        exact decide_eq_decide.2 ⟨fun q => ⟨h1.1, h1.2, h2, h3.1, h3.2, q.1, q.2⟩, fun q => ⟨q.2.2.2.2.2.1, q.2.2.2.2.2.2⟩⟩
      · rw [if_neg (by rw [decide_eq_true_eq]; exact h3)]
        congr 1
        exact (decide_eq_false (fun q => h3 ⟨q.2.2.2.1, q.2.2.2.2.1⟩)).symm
    · rw [if_neg h2]
      congr 1
      exact (decide_eq_false (fun q => h2 q.2.2.1)).symm
  · rw [if_neg (by rw [decide_eq_true_eq]; exact h1)]
    congr 1
    exact (decide_eq_false (fun q => h1 ⟨q.1, q.2.1⟩)).symm
theorem specRoom_eq (a0 a1 a2 a3 : Int) : spec_LogRoom.f a0 a1 a2 a3 = some (roomL a0 a1 a2) := by
  unfold spec_LogRoom.f roomL
  split <;> rfl
theorem implRoom_eq (a0 a1 a2 a3 : Int) : impl_LogRoom.f a0 a1 a2 a3 = some (roomL a0 a1 a2) := by
  unfold impl_LogRoom.f roomL mx
  rfl
/-- the writes of a record -/
def wList (a0 a1 a2 a3 : Int) (l : List Int) : List S96 := if l.length ≤ 4000 ∧ (nP l : Int) ≤ roomL a0 a1 a2 then lwAll a0 a2 a3 l (nP l) (nP l) 0 else []
theorem wList_len (a0 a1 a2 a3 : Int) (l : List Int) : (wList a0 a1 a2 a3 l).length ≤ 100 := by
  unfold wList nP
  split
  · rename_i h; rw [lwAll_len]; omega
  · simp
theorem nP_le {l : List Int} (h : l.length ≤ 4000) : nP l ≤ 100 ∧ 1 ≤ nP l ∧ (nP l - 1) * 44 ≤ l.length ∧ l.length ≤ nP l * 44 := by
  unfold nP; omega
theorem pieces_num (l : List Int) (hl : l.length ≤ 1048576) : wrap64 (Int.tdiv (wrap64 ((wrap64 ((l.length : Int) + 44)) - 1)) 44) = (((l.length + 43) / 44 : Nat) : Int) := by
  rw [wrap_in (x := (l.length : Int) + 44) (by omega) (by omega), wrap_in (x := (l.length : Int) + 44 - 1) (by omega) (by omega), Int.tdiv_eq_ediv_of_nonneg (by omega), wrap_in (by omega) (by omega)]
  omega
theorem specWr_eq (a0 a1 a2 a3 : Int) (l : List Int) (hl : l.length ≤ 1048576) {k : Nat} (hk : 400 ≤ k) : spec_LogWrites.f k a0 a1 a2 a3 l = some (if fineL a0 a1 a2 a3 = true then wList a0 a1 a2 a3 l else []) := by
  obtain ⟨k, rfl⟩ : ∃ q, k = q + 2 := ⟨k - 2, by omega⟩
  unfold spec_LogWrites.f
  rw [Option.bind_some, pieces_num l hl]
  have hj : (if (((l.length + 43) / 44 : Nat) : Int) = 0 then spec_LogWrites.j0 (k + 2) l [] 1 a0 a1 a2 a3 else spec_LogWrites.j0 (k + 2) l [] (((l.length + 43) / 44 : Nat) : Int) a0 a1 a2 a3) = spec_LogWrites.j0 (k + 2) l [] (nP l : Int) a0 a1 a2 a3 := by
    by_cases h : (((l.length + 43) / 44 : Nat) : Int) = 0
    · rw [if_pos h, show (nP l : Int) = 1 from by unfold nP; omega]
    · rw [if_neg h, show (nP l : Int) = (((l.length + 43) / 44 : Nat) : Int) from by unfold nP; omega]
  rw [hj]
  unfold spec_LogWrites.j0
  dsimp only
  rw [fineL_eq, Option.bind_some]
  by_cases hf : fineL a0 a1 a2 a3 = true
  · rw [if_pos hf, if_pos hf]
    unfold wList
    by_cases hb : (l.length : Int) > 4000
    · rw [if_pos hb, if_neg (by omega)]; unfold spec_LogWrites.j1; dsimp only; rw [if_pos rfl]
    · rw [if_neg hb, specRoom_eq, Option.bind_some]
      unfold spec_LogWrites.j1
      dsimp only
      by_cases hr : (nP l : Int) > roomL a0 a1 a2
      · rw [if_pos (decide_eq_true hr), if_neg (by omega)]
      · rw [if_neg (by rw [decide_eq_true_eq]; exact hr), if_pos (by omega)]
        obtain ⟨n1, n2, n3, n4⟩ := nP_le (l := l) (by omega)
        exact specWr_loop a0 a1 a2 a3 l (nP l) n1 (by omega) n3 (nP l) 0 k [] (by omega) (by simp; omega) (by omega)
  · rw [if_neg hf, if_neg hf]; unfold spec_LogWrites.j1; dsimp only; rw [if_pos rfl]
theorem implWr_eq (a0 a1 a2 a3 : Int) (l : List Int) (hl : l.length ≤ 1048576) {k : Nat} (hk : 400 ≤ k) : impl_LogWrites.f k a0 a1 a2 a3 l = some (wList a0 a1 a2 a3 l) := by
  obtain ⟨k, rfl⟩ : ∃ q, k = q + 1 := ⟨k - 1, by omega⟩
  unfold impl_LogWrites.f impl_piecesOf.f
  have hp : mx (wrap64 (Int.tdiv (wrap64 ((wrap64 ((l.length : Int) + 44)) - 1)) 44)) 1 = (nP l : Int) := by
    rw [pieces_num l hl]; unfold mx nP; split <;> omega
  rw [Option.bind_some, hp]
  unfold wList
  by_cases hb : (l.length : Int) > 4000
  · rw [if_pos hb, if_neg (by omega)]; unfold impl_LogWrites.j0; dsimp only; rw [if_pos rfl]
  · rw [if_neg hb, implRoom_eq, Option.bind_some]
    unfold impl_LogWrites.j0
    dsimp only
    by_cases hr : (nP l : Int) > roomL a0 a1 a2
    · rw [if_pos (decide_eq_true hr), if_neg (by omega)]
    · rw [if_neg (by rw [decide_eq_true_eq]; exact hr), if_pos (by omega)]
      obtain ⟨n1, n2, n3, n4⟩ := nP_le (l := l) (by omega)
      exact implWr_loop a0 a1 a2 a3 l (nP l) n1 n2 (by omega) n3 n4 (nP l) 0 k [] (by omega) (by simp; omega) (by omega)
def isL (D : Bool) (b : List Int) (a0 a1 a2 a3 : Int) : Bool := (D && decide (0 ≤ a0 ∧ a0 ≤ a1 ∧ a1 < ((b.length / 64 : Nat) : Int))) && decide (0 ≤ a2 ∧ a2 ≤ wrap64 ((wrap64 (a1 - a0)) + 1)) && decide (1 ≤ a3 ∧ a3 ≤ 1000000)
theorem isL_fine {D : Bool} {b : List Int} {a0 a1 a2 a3 : Int} (hD : D = true → b.length ≤ 25600) (h : isL D b a0 a1 a2 a3 = true) : fineL a0 a1 a2 a3 = true := by
  unfold isL at h
  simp only [Bool.and_eq_true, decide_eq_true_eq] at h
  obtain ⟨⟨⟨h1, h2⟩, h3⟩, h4⟩ := h
  have := hD h1
  unfold fineL
  rw [decide_eq_true_eq]
  exact ⟨h2.1, h2.2.1, by omega, h3.1, h3.2, h4.1, h4.2⟩
theorem specLog_eq {k : Nat} {b : List Int} {L : List S96} {D : Bool} (a0 a1 a2 a3 : Int) (hb : b.length ≤ 140737488351232) (hD : spec_DiskOk.f k b L = some D) : spec_l12Log.f k b L a0 a1 a2 a3 = some (isL D b a0 a1 a2 a3) := by
  unfold spec_l12Log.f isL
  rw [specRegion_eq a0 a1 hb hD, Option.bind_some, l1In_eq, l1In_eq, Option.bind_some, Option.bind_some]
  generalize (D && decide (0 ≤ a0 ∧ a0 ≤ a1 ∧ a1 < ((b.length / 64 : Nat) : Int))) = X
  cases X with
  | false => rfl
  | true =>
    rw [if_pos rfl, Bool.true_and]
    cases decide (0 ≤ a2 ∧ a2 ≤ wrap64 ((wrap64 (a1 - a0)) + 1)) <;> rfl
theorem implLog_eq {k : Nat} {b : List Int} {L : List S96} {D : Bool} (a0 a1 a2 a3 : Int) (hb : b.length ≤ 140737488351232) (hD : impl_DiskOk.f k b L = some D) : impl_isLogOf.f k b L a0 a1 a2 a3 = some (isL D b a0 a1 a2 a3) := by
  unfold impl_isLogOf.f isL
  rw [implRegion_eq a0 a1 hb hD, Option.bind_some, inRange_eq, inRange_eq, Option.bind_some, Option.bind_some]
  generalize (D && decide (0 ≤ a0 ∧ a0 ≤ a1 ∧ a1 < ((b.length / 64 : Nat) : Int))) = X
  cases X with
  | false => rfl
  | true =>
    rw [if_pos rfl, Bool.true_and]
    cases decide (0 ≤ a2 ∧ a2 ≤ wrap64 ((wrap64 (a1 - a0)) + 1)) <;> rfl
/-- what LogAdd answers, M and Q being what Sync leaves -/
def addR (B : Bool) (W : List S96) (b : List Int) (L : List S96) (M : List Int) (Q : List S96) (a0 a1 a2 a3 : Int) : List Int × List S96 × Int × Int × Int × Int × Bool :=
  if B = true then (if W.length = 0 then (b, L, a0, a1, a2, a3, false) else (M, Q, a0, a1, wrap64 (a2 + (W.length : Int)), a3, true)) else (b, L, a0, a1, a2, a3, false)
theorem specAdd_eq {k : Nat} {b : List Int} {L : List S96} {D : Bool} {M : List Int} {Q : List S96} (a0 a1 a2 a3 : Int) (l : List Int) (hb : b.length ≤ 1048576) (hL : L.length ≤ 1048576) (hl : l.length ≤ 1048576) (hk : 400 ≤ k) (hDl : D = true → b.length ≤ 25600)
    (hc : spec_l11Copy.f k b L = some (b, L)) (hD : spec_DiskOk.f k b L = some D) (hS : spec_Sync.f k b (L ++ wList a0 a1 a2 a3 l) = some (M, Q)) :
    spec_LogAdd.f k b L a0 a1 a2 a3 l = some (addR (isL D b a0 a1 a2 a3) (wList a0 a1 a2 a3 l) b L M Q a0 a1 a2 a3) := by
  unfold spec_LogAdd.f addR
  rw [hc, Option.bind_some, specWr_eq a0 a1 a2 a3 l hl hk, Option.bind_some, specLog_eq a0 a1 a2 a3 (by omega) hD, Option.bind_some]
  by_cases hB : isL D b a0 a1 a2 a3 = true
  · rw [if_pos hB, if_pos hB, if_pos (isL_fine hDl hB)]
    have := wList_len a0 a1 a2 a3 l
    by_cases h0 : (wList a0 a1 a2 a3 l).length = 0
    · rw [if_pos h0, if_pos (by omega)]
    · rw [if_neg h0, if_neg (by omega), if_pos (show L.length + (wList a0 a1 a2 a3 l).length < 4398046511104 by omega), hS, Option.bind_some]
  · rw [if_neg hB, if_neg hB]
theorem implAdd_eq {k : Nat} {b : List Int} {L : List S96} {D : Bool} {M : List Int} {Q : List S96} (a0 a1 a2 a3 : Int) (l : List Int) (hb : b.length ≤ 1048576) (hL : L.length ≤ 1048576) (hl : l.length ≤ 1048576) (hk : 400 ≤ k)
    (hc : impl_copyDisk.f k b L = some (b, L)) (hD : impl_DiskOk.f k b L = some D) (hS : impl_Sync.f k b (L ++ wList a0 a1 a2 a3 l) = some (M, Q)) :
    impl_LogAdd.f k b L a0 a1 a2 a3 l = some (addR (isL D b a0 a1 a2 a3) (wList a0 a1 a2 a3 l) b L M Q a0 a1 a2 a3) := by
  unfold impl_LogAdd.f addR
  rw [hc, Option.bind_some, implLog_eq a0 a1 a2 a3 (by omega) hD, Option.bind_some]
  by_cases hB : isL D b a0 a1 a2 a3 = true
  · rw [if_pos hB, if_pos hB, implWr_eq a0 a1 a2 a3 l hl hk, Option.bind_some]
    have := wList_len a0 a1 a2 a3 l
    by_cases h0 : (wList a0 a1 a2 a3 l).length = 0
    · rw [if_pos h0, if_pos (by omega)]
    · rw [if_neg h0, if_neg (by omega), if_pos (show L.length + (wList a0 a1 a2 a3 l).length < 4398046511104 by omega), hS, Option.bind_some]
  · rw [if_neg hB, if_neg hB]
theorem lwAll_64 (a0 a2 a3 : Int) (l : List Int) (n : Nat) : ∀ d i, ∀ x ∈ lwAll a0 a2 a3 l n d i, x.f1.length = 64
  | 0, _, x, h => by cases h
  | d + 1, i, x, h => by
    rcases List.mem_cons.1 h with h1 | h1
    · subst h1; exact lsB_len _ _ _ _ (pieceAt_len l i)
    · exact lwAll_64 a0 a2 a3 l n d (i + 1) x h1
theorem wList_64 (a0 a1 a2 a3 : Int) (l : List Int) : ∀ x ∈ wList a0 a1 a2 a3 l, x.f1.length = 64 := by
  intro x h
  unfold wList at h
  split at h
  · exact lwAll_64 _ _ _ _ _ _ _ x h
  · cases h
/-! ### A log's sector, read -/
def okB (b : List Int) : Prop := b.length = 64 ∧ ∀ x ∈ b, 0 ≤ x ∧ x < 256
theorem okB_rd {b : List Int} (h : ∀ x ∈ b, 0 ≤ x ∧ x < 256) (i : Nat) : 0 ≤ rd b (i : Int) ∧ rd b (i : Int) < 256 := by
  unfold rd
  rw [Int.toNat_natCast, List.getD_eq_getElem?_getD]
  by_cases hi : i < b.length
  · rw [List.getElem?_eq_getElem hi]; exact h _ (List.getElem_mem hi)
  · rw [List.getElem?_eq_none (by omega)]; simp
def getL (b : List Int) (i : Nat) : Int := rd b (i : Int) + rd b ((i + 1 : Nat) : Int) * 256 + rd b ((i + 2 : Nat) : Int) * 65536 + rd b ((i + 3 : Nat) : Int) * 16777216
theorem specGet_eq {b : List Int} (hb : okB b) (i : Nat) (hi : i + 3 < 64) : spec_l12Get.f b (i : Int) = some (getL b i) := by
  obtain ⟨hl, h⟩ := hb
  have e1 : wrap64 ((i : Int) + 1) = ((i + 1 : Nat) : Int) := by rw [wrap_in (by omega) (by omega)]; omega
  have e2 : wrap64 ((i : Int) + 2) = ((i + 2 : Nat) : Int) := by rw [wrap_in (by omega) (by omega)]; omega
  have e3 : wrap64 ((i : Int) + 3) = ((i + 3 : Nat) : Int) := by rw [wrap_in (by omega) (by omega)]; omega
  have r0 := okB_rd h i; have r1 := okB_rd h (i + 1); have r2 := okB_rd h (i + 2); have r3 := okB_rd h (i + 3)
  unfold spec_l12Get.f
  rw [e1, e2, e3, if_pos (by omega), if_pos (by omega), if_pos (by omega), if_pos (by omega), if_pos (by omega), if_pos (by omega), if_pos (by omega), if_pos (by omega)]
  unfold getL
  generalize rd b (i : Int) = x0 at *; generalize rd b ((i + 1 : Nat) : Int) = x1 at *; generalize rd b ((i + 2 : Nat) : Int) = x2 at *; generalize rd b ((i + 3 : Nat) : Int) = x3 at *
  rw [wrap_in (x := x0) (by omega) (by omega), wrap_in (x := x1) (by omega) (by omega), wrap_in (x := x2) (by omega) (by omega), wrap_in (x := x3) (by omega) (by omega), wrap_in (x := x1 * 256) (by omega) (by omega), wrap_in (x := x2 * 65536) (by omega) (by omega), wrap_in (x := x3 * 16777216) (by omega) (by omega),
    wrap_in (x := x0 + x1 * 256) (by omega) (by omega), wrap_in (x := x0 + x1 * 256 + x2 * 65536) (by omega) (by omega), wrap_in (by omega) (by omega)]
theorem or_add (j : Nat) (x y : Int) (hj : j ≤ 32) (x0 : 0 ≤ x) (x1 : x < 2 ^ j) (y0 : 0 ≤ y) (y1 : y < 256) : Go.bits .or .i64 x (y * 2 ^ j) = x + y * 2 ^ j := by
  obtain ⟨a, rfl⟩ := Int.eq_ofNat_of_zero_le x0
  obtain ⟨b, rfl⟩ := Int.eq_ofNat_of_zero_le y0
  have hp : (2 : Nat) ^ j ≤ 2 ^ 32 := Nat.pow_le_pow_right (by decide) hj
  have h32 : (2 : Nat) ^ 32 = 4294967296 := rfl
  have ha : a < 2 ^ j := by exact_mod_cast x1
  have hb : b < 256 := by omega
  have hm : b * 2 ^ j ≤ 255 * 2 ^ j := Nat.mul_le_mul_right _ (by omega)
  have e : ((b : Int) * 2 ^ j) = ((b * 2 ^ j : Nat) : Int) := by simp
  have hor : a ||| (b * 2 ^ j) = a + b * 2 ^ j := by
    have := Nat.two_pow_add_eq_or_of_lt ha b
    rw [Nat.mul_comm] at this
    rw [Nat.or_comm, ← this]; omega
  rw [e]
  show IntKind.i64.wrap (((BitVec.ofInt 64 (a : Int) ||| BitVec.ofInt 64 ((b * 2 ^ j : Nat) : Int)).toNat : Nat) : Int) = _
  rw [BitVec.toNat_or, ofInt_nat, ofInt_nat]
  rw [show (a : Int) % ((2 ^ 64 : Nat) : Int) = a from Int.emod_eq_of_lt (by omega) (by omega), show ((b * 2 ^ j : Nat) : Int) % ((2 ^ 64 : Nat) : Int) = ((b * 2 ^ j : Nat) : Int) from Int.emod_eq_of_lt (by omega) (by omega), Int.toNat_natCast, Int.toNat_natCast, hor]
  rw [i64_w, wrap_in (by omega) (by omega)]; omega
theorem implGet_eq {b : List Int} (hb : okB b) (i : Nat) (hi : i + 3 < 64) : impl_getLow.f b (i : Int) = some (getL b i) := by
  obtain ⟨hl, h⟩ := hb
  have e1 : wrap64 ((i : Int) + 1) = ((i + 1 : Nat) : Int) := by rw [wrap_in (by omega) (by omega)]; omega
  have e2 : wrap64 ((i : Int) + 2) = ((i + 2 : Nat) : Int) := by rw [wrap_in (by omega) (by omega)]; omega
  have e3 : wrap64 ((i : Int) + 3) = ((i + 3 : Nat) : Int) := by rw [wrap_in (by omega) (by omega)]; omega
  have r0 := okB_rd h i; have r1 := okB_rd h (i + 1); have r2 := okB_rd h (i + 2); have r3 := okB_rd h (i + 3)
  unfold impl_getLow.f
  rw [e1, e2, e3, if_pos (by omega), if_pos (by omega), if_pos (by omega), if_pos (by omega), if_pos (by omega), if_pos (by omega), if_pos (by omega), if_pos (by omega)]
  unfold getL
  generalize rd b (i : Int) = x0 at *; generalize rd b ((i + 1 : Nat) : Int) = x1 at *; generalize rd b ((i + 2 : Nat) : Int) = x2 at *; generalize rd b ((i + 3 : Nat) : Int) = x3 at *
  rw [wrap_in (x := x0) (by omega) (by omega), wrap_in (x := x1) (by omega) (by omega), wrap_in (x := x2) (by omega) (by omega), wrap_in (x := x3) (by omega) (by omega), wrap_in (x := x1 * 256) (by omega) (by omega), wrap_in (x := x2 * 65536) (by omega) (by omega), wrap_in (x := x3 * 16777216) (by omega) (by omega)]
  have o1 := or_add 8 x0 x1 (by decide) (by omega) (by omega) (by omega) (by omega)
  have o2 := or_add 16 (x0 + x1 * 256) x2 (by decide) (by omega) (by omega) (by omega) (by omega)
  have o3 := or_add 24 (x0 + x1 * 256 + x2 * 65536) x3 (by decide) (by omega) (by omega) (by omega) (by omega)
  rw [show (2 : Int) ^ 8 = 256 from rfl] at o1; rw [show (2 : Int) ^ 16 = 65536 from rfl] at o2; rw [show (2 : Int) ^ 24 = 16777216 from rfl] at o3
  rw [o1, o2, o3]
/-- The piece that a sector holds. -/
def secPiece (b : List Int) : List Int := (b.take (16 + rd b 9).toNat).drop 16
/-- Whether the bytes are a log's sector. -/
def secIs (b : List Int) : Bool := decide (1 ≤ getL b 0 ∧ getL b 0 ≤ 1000000) && decide (rd b 9 ≤ 44) && (decide (rd b 8 = 2) || (decide (rd b 8 = 1) && decide (rd b 9 = 44))) && decide (lsB (getL b 0) (getL b 4) (rd b 8) (secPiece b) = b)
theorem secPiece_len {b : List Int} (hb : okB b) (h : rd b 9 ≤ 44) : (secPiece b).length = (rd b 9).toNat ∧ (secPiece b).length ≤ 44 := by
  have r := okB_rd hb.2 9
  have r : 0 ≤ rd b 9 ∧ rd b 9 < 256 := r
  unfold secPiece
  rw [List.length_drop, List.length_take, hb.1]; omega
theorem eqAt_loop (b c : List Int) (hb : b.length = 64) (hc : c.length = 64) (e n : Int) (m : Bool) (p : List Int) : ∀ (d i f : Nat), i + d = 64 → d < f →
    spec_l12Read.l0 f b c (i : Int) e n m p = some (if b.drop i = c.drop i then (e, n, m, p, true) else (0, 0, false, [], false)) := by
  intro d
  induction d with
  | zero =>
    intro i f hi hf
    obtain ⟨f, rfl⟩ : ∃ m, f = m + 1 := ⟨f - 1, by omega⟩
    simp only [spec_l12Read.l0]
    rw [if_neg (by omega), List.drop_eq_nil_of_le (by omega), List.drop_eq_nil_of_le (by omega), if_pos rfl]
  | succ d ih =>
    intro i f hi hf
    obtain ⟨f, rfl⟩ : ∃ m, f = m + 1 := ⟨f - 1, by omega⟩
    simp only [spec_l12Read.l0]
    rw [if_pos (by omega), if_pos (by omega), if_pos (by omega)]
    have d1 := dropAt 0 b i (by omega)
    have d2 := dropAt 0 c i (by omega)
    have r1 : rd b (i : Int) = b.getD i 0 := by unfold rd; rw [Int.toNat_natCast]
    have r2 : rd c (i : Int) = c.getD i 0 := by unfold rd; rw [Int.toNat_natCast]
    rw [d1, d2, r1, r2]
    by_cases h : b.getD i 0 = c.getD i 0
    · rw [if_pos h, show wrap64 ((i : Int) + 1) = ((i + 1 : Nat) : Int) by rw [wrap_in (by omega) (by omega)]; omega, ih (i + 1) f (by omega) (by omega)]
      congr 1
      by_cases h2 : b.drop (i + 1) = c.drop (i + 1)
      · rw [if_pos h2, if_pos (by rw [h, h2])]
      · rw [if_neg h2, if_neg (fun q => h2 (List.cons.inj q).2)]
    · rw [if_neg h, if_neg (fun q => h (List.cons.inj q).1)]
theorem eqS_loop (b c : List Int) (hb : b.length = c.length) (hc : b.length ≤ 140737488351232) : ∀ (d i f : Nat), i + d = b.length → d < f →
    slices_Equal_byte_byte.l0 f b c (b.length : Int) (i : Int) = some (decide (b.drop i = c.drop i)) := by
  intro d
  induction d with
  | zero =>
    intro i f hi hf
    obtain ⟨f, rfl⟩ : ∃ m, f = m + 1 := ⟨f - 1, by omega⟩
    simp only [slices_Equal_byte_byte.l0]
    rw [if_neg (by omega), List.drop_eq_nil_of_le (by omega), List.drop_eq_nil_of_le (by omega)]; simp
  | succ d ih =>
    intro i f hi hf
    obtain ⟨f, rfl⟩ : ∃ m, f = m + 1 := ⟨f - 1, by omega⟩
    simp only [slices_Equal_byte_byte.l0]
    rw [if_pos (by omega), if_pos (by omega), if_pos (by omega), if_pos (by omega)]
    have d1 := dropAt 0 b i (by omega)
    have d2 := dropAt 0 c i (by omega)
    have r1 : rd b (i : Int) = b.getD i 0 := by unfold rd; rw [Int.toNat_natCast]
    have r2 : rd c (i : Int) = c.getD i 0 := by unfold rd; rw [Int.toNat_natCast]
    rw [d1, d2, r1, r2]
    by_cases h : b.getD i 0 = c.getD i 0
    · rw [if_pos h, show wrap64 ((i : Int) + 1) = ((i + 1 : Nat) : Int) by rw [wrap_in (by omega) (by omega)]; omega, ih (i + 1) f (by omega) (by omega)]
      congr 1
      by_cases h2 : b.drop (i + 1) = c.drop (i + 1)
      · rw [decide_eq_true h2, decide_eq_true (by rw [h, h2])]
      · rw [decide_eq_false h2, decide_eq_false (fun q => h2 (List.cons.inj q).2)]
    · rw [if_neg h, decide_eq_false (fun q => h (List.cons.inj q).1)]
theorem eqS_eq (b c : List Int) (hb : b.length = c.length) (hc : b.length ≤ 140737488351232) {f : Nat} (hf : b.length < f) : slices_Equal_byte_byte.f f b c = some (decide (b = c)) := by
  unfold slices_Equal_byte_byte.f
  rw [if_pos (by omega)]
  exact eqS_loop b c hb hc b.length 0 f (by omega) hf
theorem specRead12_eq {b : List Int} (hb : okB b) {k : Nat} (hk : 200 ≤ k) : spec_l12Read.f k b = some (if secIs b = true then (getL b 0, getL b 4, decide (rd b 8 = 1), secPiece b, true) else (0, 0, false, [], false)) := by
  have r9 : 0 ≤ rd b 9 ∧ rd b 9 < 256 := okB_rd hb.2 9
  have r8 : 0 ≤ rd b 8 ∧ rd b 8 < 256 := okB_rd hb.2 8
  have hl := hb.1
  have g0 := specGet_eq hb 0 (by decide)
  have g4 := specGet_eq hb 4 (by decide)
  rw [show ((0 : Nat) : Int) = 0 from rfl] at g0; rw [show ((4 : Nat) : Int) = 4 from rfl] at g4
  have w9 : wrap64 (rd b 9) = rd b 9 := wrap_in (by omega) (by omega)
  have w8 : wrap64 (rd b 8) = rd b 8 := wrap_in (by omega) (by omega)
  have fal : ∀ (k : Nat) (x : Int) (m : Bool) (a c : Int), 1 ≤ k → spec_l12Read.j0 k b x true a c m = some (0, 0, false, [], false) := by
    intro k x m a c h
    obtain ⟨k, rfl⟩ : ∃ m, k = m + 1 := ⟨k - 1, by omega⟩
    simp only [spec_l12Read.j0]; rw [if_pos trivial]
  have run : ∀ (m : Bool), rd b 9 ≤ 44 → spec_l12Read.j0 k b (rd b 9) false (getL b 0) (getL b 4) m = some (if b = lsB (getL b 0) (getL b 4) (if m then 1 else 2) (secPiece b) then (getL b 0, getL b 4, m, secPiece b, true) else (0, 0, false, [], false)) := by
    intro m h9
    obtain ⟨p1, p2⟩ := secPiece_len hb h9
    obtain ⟨k, rfl⟩ : ∃ m, k = m + 1 := ⟨k - 1, by omega⟩
    simp only [spec_l12Read.j0]
    rw [if_neg (by decide), Option.bind_some, show wrap64 (16 + rd b 9) = 16 + rd b 9 from wrap_in (by omega) (by omega), if_pos (by omega), if_pos (by omega)]
    rw [show ((b.take (16 + rd b 9).toNat).drop 16) = secPiece b from rfl, if_pos (by rw [List.length_nil]; omega), List.nil_append, Option.bind_some, specSector_eq _ _ _ _ p2 (by omega), Option.bind_some]
    have := eqAt_loop b (lsB (getL b 0) (getL b 4) (if m then 1 else 2) (secPiece b)) hl (lsB_len _ _ _ _ p2) (getL b 0) (getL b 4) m (secPiece b) 64 0 k (by omega) (by omega)
    rw [List.drop_zero, List.drop_zero] at this
    exact this
  unfold spec_l12Read.f
  rw [g0, Option.bind_some, g4, Option.bind_some, if_pos (by omega), if_pos (by omega), l1In_eq, Option.bind_some, w9, w8]
  unfold secIs
  by_cases c0 : 1 ≤ getL b 0 ∧ getL b 0 ≤ 1000000
  · rw [if_pos (decide_eq_true c0), l1In_eq, Option.bind_some, decide_eq_true c0]
    by_cases c1 : 1 ≤ rd b 8 ∧ rd b 8 ≤ 2
    · rw [if_pos (decide_eq_true c1)]
      by_cases c2 : rd b 9 ≤ 44
      · rw [if_neg (by omega), decide_eq_true c2]
        by_cases c3 : rd b 8 = 1
        · rw [if_pos c3]
          by_cases c4 : rd b 9 = 44
          · rw [show (rd b 9 != 44) = false by simp [c4], show (rd b 8 == 1) = true by simp [c3], run true c2, c3, decide_eq_true c4]
            by_cases c5 : lsB (getL b 0) (getL b 4) 1 (secPiece b) = b
            · rw [if_pos (by simpa using c5.symm), if_pos (by simp [c5])]; rfl
            · rw [if_neg (by simpa using fun q => c5 (Eq.symm q)), if_neg (by simp [c5])]
          · rw [show (rd b 9 != 44) = true by simp [c4], fal _ _ _ _ _ (by omega), decide_eq_false c4, if_neg (by simp [c3])]
        · have c3' : rd b 8 = 2 := by omega
          rw [if_neg c3, show (rd b 8 == 1) = false by simp [c3], run false c2, c3']
          by_cases c5 : lsB (getL b 0) (getL b 4) 2 (secPiece b) = b
          · rw [if_pos (by simpa using c5.symm), if_pos (by simp [c5])]; rfl
          · rw [if_neg (by simpa using fun q => c5 (Eq.symm q)), if_neg (by simp [c5])]
      · rw [if_pos (by omega), fal _ _ _ _ _ (by omega), decide_eq_false c2, if_neg (by simp)]
    · rw [if_neg (by simpa using c1), fal _ _ _ _ _ (by omega), decide_eq_false (show ¬ rd b 8 = 2 by omega), decide_eq_false (show ¬ rd b 8 = 1 by omega), if_neg (by simp)]
  · rw [if_neg (by simpa using c0), fal _ _ _ _ _ (by omega), decide_eq_false c0, if_neg (by simp)]
theorem implRead12_eq {b : List Int} (hb : okB b) {k : Nat} (hk : 200 ≤ k) : impl_sectorOf.f k b = some (if secIs b = true then (getL b 0, getL b 4, rd b 8, secPiece b, true) else (0, 0, 0, [], false)) := by
  have r9 : 0 ≤ rd b 9 ∧ rd b 9 < 256 := okB_rd hb.2 9
  have r8 : 0 ≤ rd b 8 ∧ rd b 8 < 256 := okB_rd hb.2 8
  have hl := hb.1
  have g0 := implGet_eq hb 0 (by decide)
  have g4 := implGet_eq hb 4 (by decide)
  rw [show ((0 : Nat) : Int) = 0 from rfl] at g0; rw [show ((4 : Nat) : Int) = 4 from rfl] at g4
  have w9 : wrap64 (rd b 9) = rd b 9 := wrap_in (by omega) (by omega)
  have fal : ∀ (k : Nat) (x a c d : Int), 1 ≤ k → impl_sectorOf.j0 k b x true a c d = some (0, 0, 0, [], false) := by
    intro k x a c d h
    obtain ⟨k, rfl⟩ : ∃ m, k = m + 1 := ⟨k - 1, by omega⟩
    simp only [impl_sectorOf.j0]; rw [if_pos trivial]
  have fal1 : ∀ (k : Nat) (a c d : Int) (p : List Int), 1 ≤ k → impl_sectorOf.j1 k b true a c d p = some (0, 0, 0, [], false) := by
    intro k a c d p h
    obtain ⟨k, rfl⟩ : ∃ m, k = m + 1 := ⟨k - 1, by omega⟩
    simp only [impl_sectorOf.j1]; rw [if_pos trivial]
  have run : ∀ (k : Nat), 150 ≤ k → rd b 9 ≤ 44 → impl_sectorOf.j1 k b false (getL b 0) (getL b 4) (rd b 8) (secPiece b) = some (if lsB (getL b 0) (getL b 4) (rd b 8) (secPiece b) = b then (getL b 0, getL b 4, rd b 8, secPiece b, true) else (0, 0, 0, [], false)) := by
    intro k hk h9
    obtain ⟨p1, p2⟩ := secPiece_len hb h9
    obtain ⟨k, rfl⟩ : ∃ m, k = m + 1 := ⟨k - 1, by omega⟩
    have hs := lsB_len (getL b 0) (getL b 4) (rd b 8) (secPiece b) p2
    simp only [impl_sectorOf.j1]
    rw [if_neg (by decide), implSector_eq _ _ _ _ p2 (by omega), Option.bind_some, eqS_eq _ _ (by omega) (by omega) (by omega), Option.bind_some]
    by_cases c5 : lsB (getL b 0) (getL b 4) (rd b 8) (secPiece b) = b
    · rw [if_pos (decide_eq_true c5), if_pos c5]
    · rw [if_neg (by simpa using c5), if_neg c5]
  unfold impl_sectorOf.f
  rw [g0, Option.bind_some, g4, Option.bind_some, if_pos (by omega), if_pos (by omega), w9]
  unfold secIs
  by_cases c2 : rd b 9 ≤ 44
  · rw [if_neg (by omega), inRange_eq, Option.bind_some, decide_eq_true c2]
    by_cases c0 : 1 ≤ getL b 0 ∧ getL b 0 ≤ 1000000
    · rw [decide_eq_true c0, Bool.not_true]
      obtain ⟨k, rfl⟩ : ∃ m, k = m + 1 := ⟨k - 1, by omega⟩
      simp only [impl_sectorOf.j0]
      rw [if_neg (by decide)]
      have ep : impl_sectorOf.piece b (rd b 9) = some (secPiece b) := by
        unfold impl_sectorOf.piece
        rw [show wrap64 (16 + rd b 9) = 16 + rd b 9 from wrap_in (by omega) (by omega), if_pos (by omega), if_pos (by omega)]; rfl
      rw [ep, Option.bind_some]
      by_cases c3 : rd b 8 = 2
      · rw [if_pos c3, run k (by omega) c2, decide_eq_true c3]; simp
      · rw [if_neg c3, decide_eq_false c3]
        by_cases c4 : rd b 8 = 1
        · rw [if_pos c4, decide_eq_true c4]
          by_cases c5 : rd b 9 = 44
          · rw [show (rd b 9 != 44) = false by simp [c5], run k (by omega) c2, decide_eq_true c5]; simp
          · rw [show (rd b 9 != 44) = true by simp [c5], fal1 _ _ _ _ _ (by omega), decide_eq_false c5, if_neg (by simp)]
        · rw [if_neg c4, fal1 _ _ _ _ _ (by omega), decide_eq_false c4, if_neg (by simp)]
    · rw [decide_eq_false c0, Bool.not_false, fal _ _ _ _ _ (by omega), if_neg (by simp)]
  · rw [if_pos (by omega), fal _ _ _ _ _ (by omega), decide_eq_false c2, if_neg (by simp)]
/-! ### The log, opened -/
def accB (goes : Bool) (B : List Int) (number least within : Int) : Bool := goes && (secIs B && (decide (getL B 4 = number) && (!decide (getL B 0 < least) && !(decide (within > 0) && (getL B 0 != within)))))
def mostB (B : List Int) (most : Int) : Int := if secIs B = true then (if getL B 0 > most then getL B 0 else most) else most
theorem secIs_kind {B : List Int} (h : secIs B = true) : (1 ≤ getL B 0 ∧ getL B 0 ≤ 1000000) ∧ rd B 9 ≤ 44 ∧ (rd B 8 = 1 ∨ rd B 8 = 2) := by
  unfold secIs at h
  simp only [Bool.and_eq_true, Bool.or_eq_true, decide_eq_true_eq] at h
  refine ⟨h.1.1.1, h.1.1.2, ?_⟩
  rcases h.1.2 with h | h
  · exact .inr h
  · exact .inl h.1
theorem specStep {k : Nat} {b : List Int} {L : List S96} {B : List Int} (last : Int) (out : List (List Int)) (most : Int) (goes : Bool) (least within : Int) (rec : List Int) (number at_ first next : Int)
    (ha : at_ ≤ last) (hR : spec_ReadSector.f (k + 3) b L at_ = some (B, true)) (hB : okB B) (hk : 200 ≤ k) (hrec : rec.length ≤ 1000000) (hout : out.length ≤ 1000000) (hn : goes = true → 0 ≤ number ∧ number ≤ 1000) (hat : 0 ≤ at_) (hl : last ≤ 1000) :
    spec_LogOpen.l0 (k + 4) last out most goes least within rec number at_ b L first last next 0 =
      if accB goes B number least within = true then
        (if rd B 8 = 1 then spec_LogOpen.l0 k last out (mostB B most) true (getL B 0) (getL B 0) (rec ++ secPiece B) (number + 1) (at_ + 1) b L first last next 0
         else spec_LogOpen.l0 k last (out ++ [rec ++ secPiece B]) (mostB B most) true (getL B 0) 0 [] (number + 1) (at_ + 1) b L first last (number + 1) 0)
      else spec_LogOpen.l0 k last out (mostB B most) false least within rec number (at_ + 1) b L first last next 0 := by
  rw [show k + 4 = (k + 3) + 1 from rfl]
  simp only [spec_LogOpen.l0]
  rw [if_pos ha, hR, Option.bind_some]
  simp only []
  rw [specRead12_eq hB (by omega), Option.bind_some]
  have wa : wrap64 (at_ + 1) = at_ + 1 := wrap_in (by omega) (by omega)
  have j2f : ∀ (m' a c : Int) (f : Bool) (p : List Int) (o : Bool), accB goes B number least within = false → (o = true → secIs B = true ∧ a = getL B 0 ∧ c = getL B 4) → (o = false → secIs B = false) →
      spec_LogOpen.j2 (k + 2) last out m' goes least within rec number at_ o b L first last next 0 a c f p = spec_LogOpen.l0 k last out m' false least within rec number (at_ + 1) b L first last next 0 := by
    intro m' a c f p o hacc ho ho2
    have j3t : spec_LogOpen.j3 (k + 1) last out m' goes least within rec number at_ true b L first last next 0 a c f p = spec_LogOpen.l0 k last out m' false least within rec number (at_ + 1) b L first last next 0 := by
      simp only [spec_LogOpen.j3]; rw [if_pos trivial, wa]
    rw [show k + 2 = (k + 1) + 1 from rfl]
    simp only [spec_LogOpen.j2]
    unfold accB at hacc
    cases goes with
    | false => rw [if_neg (by decide), j3t]
    | true =>
      rw [if_pos rfl]
      cases o with
      | false => rw [if_neg (by decide), j3t]
      | true =>
        obtain ⟨h1, rfl, rfl⟩ := ho rfl
        rw [if_pos rfl]
        rw [h1, Bool.true_and, Bool.true_and] at hacc
        by_cases c1 : getL B 4 = number
        · rw [if_pos c1]
          rw [decide_eq_true c1, Bool.true_and] at hacc
          by_cases c2 : getL B 0 < least
          · rw [if_pos c2, j3t]
          · rw [if_neg c2]
            rw [decide_eq_false c2, Bool.not_false, Bool.true_and] at hacc
            by_cases c3 : within > 0
            · rw [if_pos c3]
              rw [decide_eq_true c3, Bool.true_and] at hacc
              rw [show (getL B 0 != within) = true by simpa using hacc, j3t]
            · rw [decide_eq_false c3] at hacc; simp at hacc
        · rw [if_neg c1, j3t]
  by_cases ok : secIs B = true
  · obtain ⟨⟨e1, e2⟩, h9, h8⟩ := secIs_kind ok
    obtain ⟨_, hp⟩ := secPiece_len hB h9
    rw [if_pos ok]
    simp only [if_true]
    rw [show k + 3 = (k + 2) + 1 from rfl]
    have em : mostB B most = if getL B 0 > most then getL B 0 else most := by unfold mostB; rw [if_pos ok]
    have ej : spec_LogOpen.j1 (k + 2 + 1) last out most goes least within rec number at_ true (decide (getL B 0 > most)) b L first last next 0 (getL B 0) (getL B 4) (decide (rd B 8 = 1)) (secPiece B) =
        spec_LogOpen.j2 (k + 2) last out (mostB B most) goes least within rec number at_ true b L first last next 0 (getL B 0) (getL B 4) (decide (rd B 8 = 1)) (secPiece B) := by
      simp only [spec_LogOpen.j1]
      rw [em]
      by_cases c : getL B 0 > most
      · rw [if_pos (decide_eq_true c), if_pos c]
      · rw [if_neg (by simpa using c), if_neg c]
    rw [ej]
    by_cases hacc : accB goes B number least within = true
    · rw [if_pos hacc]
      unfold accB at hacc
      simp only [Bool.and_eq_true, decide_eq_true_eq, Bool.not_eq_true', decide_eq_false_iff_not, Bool.and_eq_false_imp] at hacc
      obtain ⟨g, _, c1, c2, c3⟩ := hacc
      have hnn := hn g
      subst g
      rw [show k + 2 = (k + 1) + 1 from rfl]
      simp only [spec_LogOpen.j2]
      rw [if_pos trivial, if_pos trivial, if_pos c1, if_neg c2]
      have j3f : spec_LogOpen.j3 (k + 1) last out (mostB B most) true least within rec number at_ false b L first last next 0 (getL B 0) (getL B 4) (decide (rd B 8 = 1)) (secPiece B) =
          (if rd B 8 = 1 then spec_LogOpen.l0 k last out (mostB B most) true (getL B 0) (getL B 0) (rec ++ secPiece B) (number + 1) (at_ + 1) b L first last next 0
         else spec_LogOpen.l0 k last (out ++ [rec ++ secPiece B]) (mostB B most) true (getL B 0) 0 [] (number + 1) (at_ + 1) b L first last (number + 1) 0) := by
        simp only [spec_LogOpen.j3]
        rw [if_neg (by decide), if_pos (by omega), Option.bind_some, wa, show wrap64 (number + 1) = number + 1 from wrap_in (by omega) (by omega)]
        by_cases c8 : rd B 8 = 1
        · rw [if_pos (decide_eq_true c8), if_pos c8]
        · rw [if_neg (by simpa using c8), if_neg c8, Option.bind_some, if_pos (by simp only [List.length_append, List.length_nil]; omega), if_pos (by omega), List.nil_append]
      by_cases c4 : within > 0
      · rw [if_pos c4, c3 c4, j3f]
      · rw [if_neg c4, j3f]
    · rw [if_neg hacc]
      exact j2f _ _ _ _ _ true (by simpa using hacc) (fun _ => ⟨ok, rfl, rfl⟩) (fun h => by cases h)
  · rw [if_neg ok]
    simp only [Bool.false_eq_true, if_false]
    have hacc : accB goes B number least within = false := by unfold accB; rw [Bool.eq_false_iff.mpr ok]; simp
    rw [hacc, if_neg (by decide)]
    have em : mostB B most = most := by unfold mostB; rw [if_neg ok]
    rw [show k + 3 = (k + 2) + 1 from rfl, em]
    simp only [spec_LogOpen.j1]
    rw [if_neg (by decide)]
    exact j2f _ _ _ _ _ false hacc (fun h => by cases h) (fun _ => Bool.eq_false_iff.mpr ok)
theorem implStep {k : Nat} {b : List Int} {L : List S96} {B : List Int} (last : Int) (out : List (List Int)) (ends : List Int) (most : Int) (goes : Bool) (least within : Int) (rec : List Int) (number at_ first next : Int)
    (ha : at_ ≤ last) (hR : impl_ReadSector.f (k + 2) b L at_ = some (B, true)) (hB : okB B) (hk : 200 ≤ k) (hrec : rec.length ≤ 1000000) (hout : out.length ≤ 1000000) (hends : ends.length ≤ 1000000) (hn : goes = true → number = at_ - first) (hat : 0 ≤ first ∧ first ≤ at_) (hl : last ≤ 1000) (hm : 0 ≤ most ∧ most ≤ 1000000) :
    impl_logOf.l0 (k + 3) first last out ends rec least within (!goes) at_ b L first last next (most + 1) =
      if accB goes B number least within = true then
        (if rd B 8 = 1 then impl_logOf.l0 k first last out ends (rec ++ secPiece B) (getL B 0) (getL B 0) false (at_ + 1) b L first last next (mostB B most + 1)
         else impl_logOf.l0 k first last (out ++ [rec ++ secPiece B]) (ends ++ [number + 1]) [] (getL B 0) 0 false (at_ + 1) b L first last (number + 1) (mostB B most + 1))
      else impl_logOf.l0 k first last out ends rec least within true (at_ + 1) b L first last next (mostB B most + 1) := by
  rw [show k + 3 = (k + 2) + 1 from rfl]
  simp only [impl_logOf.l0]
  rw [if_pos ha, hR, Option.bind_some]
  simp only []
  rw [implRead12_eq hB (by omega), Option.bind_some]
  have wa : wrap64 (at_ + 1) = at_ + 1 := wrap_in (by omega) (by omega)
  have wf : wrap64 (at_ - first) = at_ - first := wrap_in (by omega) (by omega)
  have j2t : ∀ (m' a c f : Int) (p : List Int), impl_logOf.j2 (k + 1) first last out ends rec least within true at_ b L first last next m' a c f p = impl_logOf.l0 k first last out ends rec least within true (at_ + 1) b L first last next m' := by
    intro m' a c f p
    simp only [impl_logOf.j2]; rw [if_pos trivial, wa]
  by_cases ok : secIs B = true
  · obtain ⟨⟨e1, e2⟩, h9, h8⟩ := secIs_kind ok
    obtain ⟨_, hp⟩ := secPiece_len hB h9
    rw [if_pos ok]
    simp only [if_true]
    have em : mx (most + 1) (wrap64 (getL B 0 + 1)) = mostB B most + 1 := by
      unfold mostB mx
      rw [if_pos ok, show wrap64 (getL B 0 + 1) = getL B 0 + 1 from wrap_in (by omega) (by omega)]
      by_cases c : getL B 0 > most
      · rw [if_pos (by omega), if_pos c]
      · rw [if_neg (by omega), if_neg c]
    rw [em, show k + 2 = (k + 1) + 1 from rfl]
    simp only [impl_logOf.j1]
    cases goes with
    | false =>
      rw [Bool.not_false, if_pos (show (true : Bool) = true from rfl), j2t, if_neg (show ¬ (accB false B number least within = true) by simp [accB])]
    | true =>
      rw [Bool.not_true, if_neg (by decide), if_pos trivial, wf]
      have hnum := hn rfl
      by_cases hacc : accB true B number least within = true
      · rw [if_pos hacc]
        unfold accB at hacc
        simp only [Bool.and_eq_true, decide_eq_true_eq, Bool.not_eq_true', decide_eq_false_iff_not, Bool.and_eq_false_imp] at hacc
        obtain ⟨_, _, c1, c2, c3⟩ := hacc
        rw [if_pos (by omega), if_neg c2]
        have j2f : impl_logOf.j2 (k + 1) first last out ends rec least within false at_ b L first last next (mostB B most + 1) (getL B 0) (getL B 4) (rd B 8) (secPiece B) =
            (if rd B 8 = 1 then impl_logOf.l0 k first last out ends (rec ++ secPiece B) (getL B 0) (getL B 0) false (at_ + 1) b L first last next (mostB B most + 1)
             else impl_logOf.l0 k first last (out ++ [rec ++ secPiece B]) (ends ++ [number + 1]) [] (getL B 0) 0 false (at_ + 1) b L first last (number + 1) (mostB B most + 1)) := by
          simp only [impl_logOf.j2]
          rw [if_neg (by decide), if_pos (by omega), Option.bind_some, wa, wf, show wrap64 (at_ - first + 1) = number + 1 by rw [wrap_in (by omega) (by omega)]; omega]
          by_cases c8 : rd B 8 = 1
          · rw [if_neg (by omega), if_pos c8]
          · rw [if_pos (by omega), if_neg c8, clone_eq _ (by rw [List.length_append]; omega), Option.bind_some, if_pos (by omega), if_pos (by omega)]
        by_cases c4 : within > 0
        · rw [if_pos c4, c3 c4, j2f]
        · rw [if_neg c4, j2f]
      · rw [if_neg hacc]
        unfold accB at hacc
        rw [ok, Bool.true_and, Bool.true_and] at hacc
        by_cases c1 : getL B 4 = number
        · rw [if_pos (by omega)]
          rw [decide_eq_true c1, Bool.true_and] at hacc
          by_cases c2 : getL B 0 < least
          · rw [if_pos c2, j2t]
          · rw [if_neg c2]
            rw [decide_eq_false c2, Bool.not_false, Bool.true_and] at hacc
            by_cases c3 : within > 0
            · rw [if_pos c3]
              rw [decide_eq_true c3, Bool.true_and] at hacc
              rw [show (getL B 0 != within) = true by simpa using hacc, j2t]
            · rw [decide_eq_false c3] at hacc; simp at hacc
        · rw [if_neg (by omega), j2t]
  · rw [if_neg ok]
    simp only [Bool.false_eq_true, if_false]
    have hacc : accB goes B number least within = false := by unfold accB; rw [Bool.eq_false_iff.mpr ok]; simp
    have em : mostB B most = most := by unfold mostB; rw [if_neg ok]
    rw [hacc, if_neg (by decide), em, show k + 2 = (k + 1) + 1 from rfl]
    simp only [impl_logOf.j1]
    cases goes with
    | false => rw [Bool.not_false, if_pos (show (true : Bool) = true from rfl), j2t]
    | true => rw [Bool.not_true, if_neg (show ¬ (false : Bool) = true by decide), if_neg (show ¬ (false : Bool) = true by decide), j2t]
def sumB (L : List (List Int)) : Nat := (L.map List.length).sum
theorem open_loop {b : List Int} {L : List S96} {K0 : Nat} (first last : Int) (hf : 0 ≤ first) (hl : last < 400) (S : Int → List Int)
    (hS : ∀ a, first ≤ a → a ≤ last → okB (S a)) (hrS : ∀ a k, first ≤ a → a ≤ last → K0 < k → spec_ReadSector.f k b L a = some (S a, true)) (hrI : ∀ a k, first ≤ a → a ≤ last → K0 < k → impl_ReadSector.f k b L a = some (S a, true)) :
    ∀ (d : Nat) (a : Int) (out : List (List Int)) (ends : List Int) (most : Int) (goes : Bool) (least within : Int) (rec : List Int) (number next : Int),
      a + d = last + 1 → first ≤ a → 0 ≤ most → most ≤ 1000000 → (goes = true → number = a - first) → (out.length : Int) ≤ a - first → (ends.length : Int) ≤ a - first → ((rec.length + sumB out : Nat) : Int) ≤ 44 * (a - first) →
      ∃ (out' : List (List Int)) (most' next' : Int) (ends' : List Int), (∀ kS, 4 * d + K0 + 300 ≤ kS → spec_LogOpen.l0 kS last out most goes least within rec number a b L first last next 0 = some (if most' = 1000000 then (0, 0, 0, 0, [], false) else (first, last, next', wrap64 (most' + 1), out', true))) ∧
        (∀ kI, 4 * d + K0 + 300 ≤ kI → impl_logOf.l0 kI first last out ends rec least within (!goes) a b L first last next (most + 1) = some (first, last, next', most' + 1, out', ends')) ∧ 0 ≤ most' ∧ most' ≤ 1000000 ∧ out'.length ≤ 400 ∧ sumB out' ≤ 17600 := by
  intro d
  induction d with
  | zero =>
    intro a out ends most goes least within rec number next ha hfa m0 m1 hn ho he hr
    refine ⟨out, most, next, ends, fun kS hkS => ?_, fun kI hkI => ?_, m0, m1, by omega, by omega⟩
    · obtain ⟨kS, rfl⟩ : ∃ m, kS = m + 1 := ⟨kS - 1, by omega⟩
      simp only [spec_LogOpen.l0]
      rw [if_neg (by omega)]
      split <;> rfl
    · obtain ⟨kI, rfl⟩ : ∃ m, kI = m + 1 := ⟨kI - 1, by omega⟩
      simp only [impl_logOf.l0]
      rw [if_neg (by omega)]
  | succ d ih =>
    intro a out ends most goes least within rec number next ha hfa m0 m1 hn ho he hr
    have hB := hS a hfa (by omega)
    have hm : 0 ≤ mostB (S a) most ∧ mostB (S a) most ≤ 1000000 := by
      unfold mostB
      split
      · rename_i ok
        have := (secIs_kind ok).1
        split <;> omega
      · omega
    have eS : ∀ kS, 4 * d + K0 + 300 ≤ kS → _ := fun kS (hkS : 4 * d + K0 + 300 ≤ kS) => specStep (k := kS) last out most goes least within rec number a first next (by omega) (hrS a _ hfa (by omega) (by omega)) hB (by omega) (by omega) (by omega) (fun g => by have := hn g; omega) (by omega) (by omega)
    have eI : ∀ kI, 4 * d + K0 + 300 ≤ kI → _ := fun kI (hkI : 4 * d + K0 + 300 ≤ kI) => implStep (k := kI) last out ends most goes least within rec number a first next (by omega) (hrI a _ hfa (by omega) (by omega)) hB (by omega) (by omega) (by omega) (by omega) hn ⟨hf, hfa⟩ (by omega) ⟨m0, m1⟩
    by_cases hacc : accB goes (S a) number least within = true
    · simp only [if_pos hacc] at eS eI
      have g : goes = true := by unfold accB at hacc; rw [Bool.and_eq_true] at hacc; exact hacc.1
      have ok : secIs (S a) = true := by unfold accB at hacc; rw [Bool.and_eq_true, Bool.and_eq_true] at hacc; exact hacc.2.1
      have hnum := hn g
      have hp := (secPiece_len hB (secIs_kind ok).2.1).2
      by_cases c8 : rd (S a) 8 = 1
      · simp only [if_pos c8] at eS eI
        obtain ⟨o, m, n, e, h1, h2, h3⟩ := ih (a + 1) out ends (mostB (S a) most) true (getL (S a) 0) (getL (S a) 0) (rec ++ secPiece (S a)) (number + 1) next (by omega) (by omega) hm.1 hm.2 (fun _ => by omega) (by omega) (by omega) (by rw [List.length_append]; omega)
        refine ⟨o, m, n, e, fun kS hkS => ?_, fun kI hkI => ?_, h3⟩
        · obtain ⟨kS, rfl⟩ : ∃ m, kS = m + 4 := ⟨kS - 4, by omega⟩
          rw [eS kS (by omega)]; exact h1 kS (by omega)
        · obtain ⟨kI, rfl⟩ : ∃ m, kI = m + 3 := ⟨kI - 3, by omega⟩
          rw [eI kI (by omega)]; exact h2 kI (by omega)
      · simp only [if_neg c8] at eS eI
        have hsum : sumB (out ++ [rec ++ secPiece (S a)]) = sumB out + (rec.length + (secPiece (S a)).length) := by unfold sumB; simp
        obtain ⟨o, m, n, e, h1, h2, h3⟩ := ih (a + 1) (out ++ [rec ++ secPiece (S a)]) (ends ++ [number + 1]) (mostB (S a) most) true (getL (S a) 0) 0 [] (number + 1) (number + 1) (by omega) (by omega) hm.1 hm.2 (fun _ => by omega) (by rw [List.length_append, List.length_singleton]; omega) (by rw [List.length_append, List.length_singleton]; omega) (by rw [hsum, List.length_nil]; omega)
        refine ⟨o, m, n, e, fun kS hkS => ?_, fun kI hkI => ?_, h3⟩
        · obtain ⟨kS, rfl⟩ : ∃ m, kS = m + 4 := ⟨kS - 4, by omega⟩
          rw [eS kS (by omega)]; exact h1 kS (by omega)
        · obtain ⟨kI, rfl⟩ : ∃ m, kI = m + 3 := ⟨kI - 3, by omega⟩
          rw [eI kI (by omega)]; exact h2 kI (by omega)
    · simp only [if_neg hacc] at eS eI
      obtain ⟨o, m, n, e, h1, h2, h3⟩ := ih (a + 1) out ends (mostB (S a) most) false least within rec number next (by omega) (by omega) hm.1 hm.2 (fun h => by cases h) (by omega) (by omega) (by omega)
      refine ⟨o, m, n, e, fun kS hkS => ?_, fun kI hkI => ?_, h3⟩
      · obtain ⟨kS, rfl⟩ : ∃ m, kS = m + 4 := ⟨kS - 4, by omega⟩
        rw [eS kS (by omega)]; exact h1 kS (by omega)
      · obtain ⟨kI, rfl⟩ : ∃ m, kI = m + 3 := ⟨kI - 3, by omega⟩
        rw [eI kI (by omega)]; exact h2 kI (by omega)
/-- The bytes of a right disk's sectors, each a byte. -/
theorem readM_ok {b : List Int} {L : List S96} {a : Int} (h : rdOk b L a = true) (hb : ∀ x ∈ b, 0 ≤ x ∧ x < 256) (hL : ∀ x ∈ L, ∀ y ∈ x.f1, 0 ≤ y ∧ y < 256) : okB (readM b L a) := by
  have hd := rdOk_iff h
  have hi := dOk_iff hd.1
  unfold readM
  rw [if_pos h]
  refine ⟨lastW_len a _ L _ (secB_len h) hi.2, ?_⟩
  have hsec : ∀ y ∈ secB b a, 0 ≤ y ∧ y < 256 := fun y hy => hb y (List.mem_of_mem_take (List.mem_of_mem_drop hy))
  clear h hd hi
  generalize secB b a = d at hsec
  unfold lastW
  induction L generalizing d with
  | nil => exact hsec
  | cons x L ih =>
    rw [List.foldl_cons]
    refine ih (fun y hy => hL y (by simp [hy])) _ ?_
    split
    · exact hL x (by simp)
    · exact hsec
/-! ### The log as a run over sectors -/
structure LSc where
  v : Bool
  e : Int
  n : Int
  m : Bool
  p : List Int
structure LSt where
  out : List (List Int)
  goes : Bool
  least : Int
  within : Int
  part : List Int
  number : Int
  next : Int
def lac (t : LSt) (s : LSc) : Bool := t.goes && (s.v && (decide (s.n = t.number) && (!decide (s.e < t.least) && !(decide (t.within > 0) && (s.e != t.within)))))
def lstp (t : LSt) (s : LSc) : LSt :=
  if lac t s = true then (if s.m = true then ⟨t.out, true, s.e, s.e, t.part ++ s.p, t.number + 1, t.next⟩ else ⟨t.out ++ [t.part ++ s.p], true, s.e, 0, [], t.number + 1, t.number + 1⟩)
  else ⟨t.out, false, t.least, t.within, t.part, t.number, t.next⟩
def runS (t : LSt) (l : List LSc) : LSt := l.foldl lstp t
def lst0 : LSt := ⟨[], true, 1, 0, [], 0, 0⟩
def lmst (m : Int) (s : LSc) : Int := if s.v = true then (if s.e > m then s.e else m) else m
def mostS (m : Int) (l : List LSc) : Int := l.foldl lmst m
theorem runS_cons (t : LSt) (s : LSc) (l : List LSc) : runS t (s :: l) = runS (lstp t s) l := rfl
theorem runS_append (t : LSt) (a b : List LSc) : runS t (a ++ b) = runS (runS t a) b := List.foldl_append ..
theorem mostS_le : ∀ (l : List LSc) (m : Int), m ≤ mostS m l
  | [], m => Int.le_refl _
  | s :: l, m => by
    refine Int.le_trans ?_ (mostS_le l (lmst m s))
    unfold lmst; split <;> (try split) <;> omega
theorem mostS_mem : ∀ (l : List LSc) (m : Int) (s : LSc), s ∈ l → s.v = true → s.e ≤ mostS m l
  | [], _, _, h, _ => by simp at h
  | x :: l, m, s, h, hv => by
    rcases List.mem_cons.1 h with rfl | h
    · refine Int.le_trans ?_ (mostS_le l (lmst m s))
      unfold lmst; rw [if_pos hv]; split <;> omega
    · exact mostS_mem l (lmst m x) s h hv
theorem stp_dead {t : LSt} (h : t.goes = false) (s : LSc) : lstp t s = t := by
  unfold lstp lac
  rw [h]
  cases t
  simp_all
theorem runS_dead {t : LSt} (h : t.goes = false) : ∀ l : List LSc, runS t l = t
  | [] => rfl
  | s :: l => by rw [runS_cons, stp_dead h, runS_dead h l]
theorem stp_out (t : LSt) (s : LSc) : t.out.length ≤ (lstp t s).out.length := by
  unfold lstp; split
  · split <;> simp
  · simp
theorem runS_out : ∀ (l : List LSc) (t : LSt), t.out.length ≤ (runS t l).out.length
  | [], _ => Nat.le_refl _
  | s :: l, t => Nat.le_trans (stp_out t s) (runS_out l (lstp t s))
/-- What a sector may be in a mix: the old one, or a piece of epoch E. -/
def Mix (E : Int) : List LSc → List LSc → Prop
  | [], [] => True
  | r :: l, q :: l' => (q = r ∨ q.e = E) ∧ Mix E l l'
  | _, _ => False
/-- Inside an old record nothing ends. -/
theorem mix_old (E : Int) : ∀ (r q : List LSc) (t : LSt), Mix E r q → (∀ s ∈ r, s.v = true → 1 ≤ s.e ∧ s.e < E) → (runS t r).out = t.out → (t.goes = true → 0 < t.within ∧ t.within < E) → (runS t q).out = t.out ∧ (runS t q).next = t.next
  | [], [], t, _, _, _, _ => ⟨rfl, rfl⟩
  | [], _ :: _, _, h, _, _, _ => h.elim
  | _ :: _, [], _, h, _, _, _ => h.elim
  | a :: r, b :: q, t, hm, he, ho, hw => by
    rcases Bool.eq_false_or_eq_true t.goes with hg | hg
    case inr => rw [runS_dead hg]; exact ⟨rfl, rfl⟩
    obtain ⟨w0, w1⟩ := hw hg
    by_cases hb : b = a
    · subst hb
      have hlen := runS_out r (lstp t b)
      rw [runS_cons] at ho ⊢
      rw [ho] at hlen
      have hk : (lstp t b).out = t.out ∧ (lstp t b).next = t.next ∧ ((lstp t b).goes = true → 0 < (lstp t b).within ∧ (lstp t b).within < E) := by
        by_cases hac : lac t b = true
        · have hv : b.v = true := by unfold lac at hac; simp only [Bool.and_eq_true] at hac; exact hac.2.1
          by_cases hmo : b.m = true
          · unfold lstp; rw [if_pos hac, if_pos hmo]
            have := he b (by simp) hv
            exact ⟨rfl, rfl, fun _ => by simp only; omega⟩
          · exfalso
            unfold lstp at hlen; rw [if_pos hac, if_neg hmo] at hlen
            simp at hlen
            omega
        · unfold lstp; rw [if_neg hac]; exact ⟨rfl, rfl, fun h => by simp at h⟩
      have := mix_old E r q (lstp t b) hm.2 (fun s hs => he s (by simp [hs])) (by rw [ho, hk.1]) hk.2.2
      rw [hk.1, hk.2.1] at this
      exact this
    · have hbe : b.e = E := hm.1.resolve_left hb
      have hac : lac t b = false := by
        unfold lac
        have h1 : decide (t.within > 0) = true := decide_eq_true w0
        have h2 : (b.e != t.within) = true := by simp; omega
        rw [h1, h2]; simp
      rw [runS_cons]
      have hs : lstp t b = ⟨t.out, false, t.least, t.within, t.part, t.number, t.next⟩ := by unfold lstp; rw [if_neg (by rw [hac]; decide)]
      rw [hs, runS_dead rfl]
      exact ⟨rfl, rfl⟩
/-- The sectors of a record's pieces. -/
def mkP (E : Int) : Int → List (List Int) → List LSc
  | _, [] => []
  | n, [p] => [⟨true, E, n, false, p⟩]
  | n, p :: q :: r => ⟨true, E, n, true, p⟩ :: mkP E (n + 1) (q :: r)
/-- Old sectors, of which some are written over by pieces. -/
def MixP : List LSc → List LSc → List LSc → Prop
  | r, [], q => q = r
  | a :: r, x :: P, b :: q => (b = a ∨ b = x) ∧ MixP r P q
  | _, _ :: _, _ => False
theorem mkP_len (E : Int) : ∀ (l : List (List Int)) (n : Int), (mkP E n l).length = l.length
  | [], _ => rfl
  | [_], _ => rfl
  | p :: q :: r, n => by simp [mkP, mkP_len E (q :: r) (n + 1)]
theorem mkP_e (E : Int) : ∀ (l : List (List Int)) (n : Int), ∀ s ∈ mkP E n l, s.e = E ∧ s.v = true
  | [], _, s, h => by simp [mkP] at h
  | [_], _, s, h => by simp [mkP] at h; subst h; exact ⟨rfl, rfl⟩
  | p :: q :: r, n, s, h => by
    rcases List.mem_cons.1 h with rfl | h
    · exact ⟨rfl, rfl⟩
    · exact mkP_e E (q :: r) (n + 1) s h
theorem mix_refl (E : Int) : ∀ q : List LSc, Mix E q q
  | [] => trivial
  | _ :: q => ⟨.inl rfl, mix_refl E q⟩
theorem mix_of (E : Int) : ∀ (r P q : List LSc), (∀ s ∈ P, s.e = E) → MixP r P q → Mix E r q
  | r, [], q, _, h => by
    have h : q = r := by cases r <;> exact h
    subst h
    exact mix_refl E q
  | a :: r, x :: P, b :: q, he, h => by
    obtain ⟨h1, h2⟩ := h
    refine ⟨h1.imp id (fun e => ?_), mix_of E r P q (fun s hs => he s (by simp [hs])) h2⟩
    rw [e]; exact he x (by simp)
  | [], _ :: _, _, _, h => by cases h
  | _ :: _, _ :: _, [], _, h => by cases h
/-- What is old falls where a record of epoch E is open, or where E is the least. -/
theorem old_falls {E : Int} {t : LSt} {s : LSc} (hs : s.v = true → s.e < E) (ht : t.within = E ∧ 0 < E ∨ t.least = E) : lac t s = false := by
  unfold lac
  cases hv : s.v with
  | false => simp
  | true =>
    have := hs hv
    rcases ht with ⟨h1, h2⟩ | h1
    · rw [show decide (t.within > 0) = true from decide_eq_true (by omega), show (s.e != t.within) = true by simp; omega]; simp
    · rw [show decide (s.e < t.least) = true from decide_eq_true (by omega)]; simp
theorem stp_false {t : LSt} {s : LSc} (h : lac t s = false) : lstp t s = ⟨t.out, false, t.least, t.within, t.part, t.number, t.next⟩ := by
  unfold lstp; rw [if_neg (by rw [h]; decide)]
theorem old_run {E : Int} {t : LSt} (ht : t.within = E ∧ 0 < E ∨ t.least = E) : ∀ (r : List LSc), (∀ s ∈ r, s.v = true → s.e < E) → (runS t r).out = t.out ∧ (runS t r).next = t.next
  | [], _ => ⟨rfl, rfl⟩
  | s :: r, h => by
    rw [runS_cons, stp_false (old_falls (h s (by simp)) ht), runS_dead rfl]
    exact ⟨rfl, rfl⟩
/-- A piece is taken. -/
theorem new_ac {E n : Int} {b : Bool} {p : List Int} {t : LSt} (hg : t.goes = true) (hl : t.least ≤ E) (hw : t.within = 0 ∨ t.within = E) (hn : n = t.number) : lac t ⟨true, E, n, b, p⟩ = true := by
  unfold lac
  rw [hg]
  simp only [Bool.true_and, Bool.and_eq_true, decide_eq_true_eq, Bool.not_eq_true', decide_eq_false_iff_not]
  refine ⟨hn, by omega, ?_⟩
  rcases hw with h | h <;> rw [h] <;> simp
/-- Within the adding of a record. -/
theorem new_mix {E : Int} (hE : 0 < E) : ∀ (pcs : List (List Int)) (r q : List LSc) (t : LSt), t.goes = true → t.least = E → t.within = E → MixP r (mkP E t.number pcs) q → (∀ s ∈ r, s.v = true → s.e < E) →
    ((runS t q).out = t.out ∧ (runS t q).next = t.next) ∨ ((runS t q).out = t.out ++ [t.part ++ pcs.flatten] ∧ (runS t q).next = t.number + pcs.length)
  | [], r, q, t, hg, hl, hw, hm, he => by
    have hm : q = r := by cases r <;> exact hm
    subst hm
    exact .inl (old_run (.inr hl) q he)
  | [p], [], q, t, _, _, _, hm, _ => by cases q <;> cases hm
  | [p], _ :: _, [], t, _, _, _, hm, _ => by cases hm
  | [p], a :: r, b :: q, t, hg, hl, hw, hm, he => by
    obtain ⟨h1, h2⟩ := hm
    have h2 : q = r := by cases r <;> exact h2
    subst h2
    rcases h1 with rfl | rfl
    · exact .inl (old_run (.inr hl) _ he)
    · refine .inr ?_
      rw [runS_cons]
      have hs : lstp t ⟨true, E, t.number, false, p⟩ = ⟨t.out ++ [t.part ++ p], true, E, 0, [], t.number + 1, t.number + 1⟩ := by
        unfold lstp; rw [if_pos (new_ac hg (by omega) (.inr hw) rfl)]; simp
      rw [hs]
      have := old_run (E := E) (t := ⟨t.out ++ [t.part ++ p], true, E, 0, [], t.number + 1, t.number + 1⟩) (.inr rfl) q (fun s hs => he s (by simp [hs]))
      rw [this.1, this.2]
      simp
  | p :: p' :: ps, [], q, t, _, _, _, hm, _ => by cases q <;> cases hm
  | p :: p' :: ps, _ :: _, [], t, _, _, _, hm, _ => by cases hm
  | p :: p' :: ps, a :: r, b :: q, t, hg, hl, hw, hm, he => by
    obtain ⟨h1, h2⟩ := hm
    rcases h1 with rfl | rfl
    · refine .inl ?_
      rw [runS_cons, stp_false (old_falls (he b (by simp)) (.inr hl)), runS_dead rfl]
      exact ⟨rfl, rfl⟩
    · have hs : lstp t ⟨true, E, t.number, true, p⟩ = ⟨t.out, true, E, E, t.part ++ p, t.number + 1, t.next⟩ := by
        unfold lstp; rw [if_pos (new_ac hg (by omega) (.inr hw) rfl)]; simp
      rw [runS_cons, hs]
      have := new_mix hE (p' :: ps) r q ⟨t.out, true, E, E, t.part ++ p, t.number + 1, t.next⟩ rfl rfl rfl h2 (fun s hs => he s (by simp [hs]))
      simp only [List.flatten_cons, List.length_cons, List.append_assoc] at this ⊢
      rcases this with h | h
      · exact .inl h
      · refine .inr ⟨h.1, h.2.trans ?_⟩
        omega
/-- A crash within the adding: the records, and perhaps that one. -/
theorem crash_mix {E : Int} (pcs : List (List Int)) (r q : List LSc) (t : LSt) (hp : pcs ≠ []) (hg : t.goes = true) (hl : t.least ≤ E) (hE : 0 < E) (hw : t.within = 0) (hpt : t.part = []) (hm : MixP r (mkP E t.number pcs) q)
    (he : ∀ s ∈ r, s.v = true → 1 ≤ s.e ∧ s.e < E) (ho : (runS t r).out = t.out) :
    ((runS t q).out = t.out ∧ (runS t q).next = t.next) ∨ ((runS t q).out = t.out ++ [pcs.flatten] ∧ (runS t q).next = t.number + pcs.length) := by
  have hmx := mix_of E r _ q (fun s hs => (mkP_e E pcs t.number s hs).1) hm
  cases pcs with
  | nil => exact absurd rfl hp
  | cons p ps =>
    obtain ⟨x, P, hxP⟩ : ∃ x P, mkP E t.number (p :: ps) = x :: P := by cases ps <;> exact ⟨_, _, rfl⟩
    cases r with
    | nil => rw [hxP] at hm; cases q <;> cases hm
    | cons a r =>
      cases q with
      | nil => rw [hxP] at hm; cases hm
      | cons b q =>
        rw [hxP] at hm
        obtain ⟨h1, h2⟩ := hm
        rcases h1 with rfl | rfl
        · -- the first place is the old one
          left
          have hlen := runS_out r (lstp t b)
          rw [runS_cons] at ho ⊢
          rw [ho] at hlen
          have hk : (lstp t b).out = t.out ∧ (lstp t b).next = t.next ∧ ((lstp t b).goes = true → 0 < (lstp t b).within ∧ (lstp t b).within < E) := by
            rcases Bool.eq_false_or_eq_true (lac t b) with hac | hac
            · have hv : b.v = true := by unfold lac at hac; simp only [Bool.and_eq_true] at hac; exact hac.2.1
              by_cases hmo : b.m = true
              · unfold lstp; rw [if_pos hac, if_pos hmo]
                have := he b (by simp) hv
                exact ⟨rfl, rfl, fun _ => by simp only; omega⟩
              · exfalso
                unfold lstp at hlen; rw [if_pos hac, if_neg hmo] at hlen
                simp at hlen
                omega
            · rw [stp_false hac]; exact ⟨rfl, rfl, fun h => by simp at h⟩
          have := mix_old E r q (lstp t b) hmx.2 (fun s hs => he s (by simp [hs])) (by rw [ho, hk.1]) hk.2.2
          rw [hk.1, hk.2.1] at this
          exact this
        · have her : ∀ s ∈ r, s.v = true → s.e < E := fun s hs hv => (he s (by simp [hs]) hv).2
          cases ps with
          | nil =>
            right
            simp only [mkP, List.cons.injEq] at hxP
            obtain ⟨rfl, rfl⟩ := hxP
            have h2 : q = r := by cases r <;> exact h2
            subst h2
            have hs : lstp t ⟨true, E, t.number, false, p⟩ = ⟨t.out ++ [t.part ++ p], true, E, 0, [], t.number + 1, t.number + 1⟩ := by
              unfold lstp; rw [if_pos (new_ac hg hl (.inl hw) rfl)]; simp
            rw [runS_cons, hs]
            have := old_run (E := E) (t := ⟨t.out ++ [t.part ++ p], true, E, 0, [], t.number + 1, t.number + 1⟩) (.inr rfl) q her
            rw [this.1, this.2, hpt]
            simp
          | cons p' ps =>
            simp only [mkP, List.cons.injEq] at hxP
            obtain ⟨rfl, rfl⟩ := hxP
            have hs : lstp t ⟨true, E, t.number, true, p⟩ = ⟨t.out, true, E, E, t.part ++ p, t.number + 1, t.next⟩ := by
              unfold lstp; rw [if_pos (new_ac hg hl (.inl hw) rfl)]; simp
            rw [runS_cons, hs]
            have := new_mix hE (p' :: ps) r q ⟨t.out, true, E, E, t.part ++ p, t.number + 1, t.next⟩ rfl rfl rfl h2 her
            simp only [List.flatten_cons, List.length_cons, List.append_assoc, hpt, List.nil_append] at this ⊢
            rcases this with h | h
            · exact .inl h
            · refine .inr ⟨h.1, h.2.trans ?_⟩
              omega
/-- All pieces, one behind the other. -/
theorem all_new {E : Int} : ∀ (pcs : List (List Int)) (t : LSt), pcs ≠ [] → t.goes = true → t.least ≤ E → (t.within = 0 ∨ t.within = E) → runS t (mkP E t.number pcs) = ⟨t.out ++ [t.part ++ pcs.flatten], true, E, 0, [], t.number + pcs.length, t.number + pcs.length⟩
  | [], _, h, _, _, _ => absurd rfl h
  | [p], t, _, hg, hl, hw => by
    have hs : lstp t ⟨true, E, t.number, false, p⟩ = ⟨t.out ++ [t.part ++ p], true, E, 0, [], t.number + 1, t.number + 1⟩ := by
      unfold lstp; rw [if_pos (new_ac hg hl hw rfl)]; simp
    simp only [mkP, runS_cons, hs]
    simp [runS]
  | p :: p' :: ps, t, _, hg, hl, hw => by
    have hs : lstp t ⟨true, E, t.number, true, p⟩ = ⟨t.out, true, E, E, t.part ++ p, t.number + 1, t.next⟩ := by
      unfold lstp; rw [if_pos (new_ac hg hl hw rfl)]; simp
    simp only [mkP, runS_cons, hs]
    have := all_new (p' :: ps) ⟨t.out, true, E, E, t.part ++ p, t.number + 1, t.next⟩ (by simp) rfl (Int.le_refl _) (.inr rfl)
    simp only [] at this
    rw [this]
    simp only [List.flatten_cons, List.length_cons, List.append_assoc, LSt.mk.injEq, true_and]
    omega
/-- The log as LogOpen leaves it, and LogAdd keeps it. -/
structure LogInv (l : List LSc) (had : List (List Int)) (nx : Nat) (E : Int) : Prop where
  le : nx ≤ l.length
  pos : 1 ≤ E
  st : ∃ e0 : Int, e0 ≤ E ∧ runS lst0 (l.take nx) = ⟨had, true, e0, 0, [], nx, nx⟩
  out : (runS lst0 l).out = had
  next : (runS lst0 l).next = nx
  old : ∀ s ∈ l.drop nx, s.v = true → s.e < E
theorem run_split (l : List LSc) (n : Nat) (t : LSt) : runS t l = runS (runS t (l.take n)) (l.drop n) := by
  rw [← runS_append, List.take_append_drop]
/-- What opening finds. -/
theorem open_inv (l : List LSc) (hv : ∀ s ∈ l, s.v = true → 1 ≤ s.e) : ∀ k, k ≤ l.length → ((runS lst0 (l.take k)).goes = true → (runS lst0 (l.take k)).number = k) ∧ ∃ (j : Nat) (e0 : Int), j ≤ k ∧ (runS lst0 (l.take k)).next = j ∧ runS lst0 (l.take j) = ⟨(runS lst0 (l.take k)).out, true, e0, 0, [], j, j⟩ ∧ e0 ≤ mostS 0 l + 1 := by
  intro k
  induction k with
  | zero =>
    intro _
    have := mostS_le l 0
    exact ⟨fun _ => rfl, 0, 1, Nat.le_refl _, rfl, rfl, by omega⟩
  | succ k ih =>
    intro hk
    obtain ⟨h1, j, e0, hj, h2, h3, h4⟩ := ih (by omega)
    have hs : runS lst0 (l.take (k + 1)) = lstp (runS lst0 (l.take k)) l[k] := by
      rw [List.take_succ_eq_append_getElem (by omega), runS_append]; rfl
    generalize ht : runS lst0 (l.take k) = t at *
    rw [hs]
    rcases Bool.eq_false_or_eq_true (lac t l[k]) with hac | hac
    · have hh : t.goes = true ∧ l[k].v = true := by unfold lac at hac; simp only [Bool.and_eq_true] at hac; exact ⟨hac.1, hac.2.1⟩
      have hn := h1 hh.1
      by_cases hmo : l[k].m = true
      · have he : lstp t l[k] = ⟨t.out, true, l[k].e, l[k].e, t.part ++ l[k].p, t.number + 1, t.next⟩ := by unfold lstp; rw [if_pos hac, if_pos hmo]
        rw [he]
        exact ⟨fun _ => by simp only; omega, j, e0, by omega, h2, h3, h4⟩
      · have he : lstp t l[k] = ⟨t.out ++ [t.part ++ l[k].p], true, l[k].e, 0, [], t.number + 1, t.number + 1⟩ := by unfold lstp; rw [if_pos hac, if_neg hmo]
        have hm := mostS_mem l 0 l[k] (List.getElem_mem _) hh.2
        rw [he]
        refine ⟨fun _ => by simp only; omega, k + 1, l[k].e, Nat.le_refl _, by simp only; omega, ?_, by omega⟩
        rw [hs, he, hn]
        simp
    · rw [stp_false hac]
      exact ⟨fun h => by simp at h, j, e0, by omega, h2, h3, h4⟩
theorem open_is (l : List LSc) (hv : ∀ s ∈ l, s.v = true → 1 ≤ s.e) : ∃ nx : Nat, (runS lst0 l).next = nx ∧ LogInv l (runS lst0 l).out nx (mostS 0 l + 1) := by
  obtain ⟨_, j, e0, hj, h2, h3, h4⟩ := open_inv l hv l.length (Nat.le_refl _)
  rw [List.take_length] at h2 h3
  have := mostS_le l 0
  exact ⟨j, h2, ⟨hj, by omega, ⟨e0, h4, h3⟩, rfl, h2, fun s hs hv => by have := mostS_mem l 0 s (List.mem_of_mem_drop hs) hv; omega⟩⟩
/-- A record added, whole. -/
theorem add_inv {l : List LSc} {had : List (List Int)} {nx : Nat} {E : Int} (h : LogInv l had nx E) (pcs : List (List Int)) (hp : pcs ≠ []) (hl : nx + pcs.length ≤ l.length) : LogInv (l.take nx ++ (mkP E nx pcs ++ l.drop (nx + pcs.length))) (had ++ [pcs.flatten]) (nx + pcs.length) E := by
  obtain ⟨e0, he, hst⟩ := h.st
  have hln : (l.take nx).length = nx := by rw [List.length_take]; have := h.le; omega
  have hold : ∀ s ∈ l.drop (nx + pcs.length), s.v = true → s.e < E := fun s hs hv => h.old s (by rw [← List.drop_drop] at hs; exact List.mem_of_mem_drop hs) hv
  have hrun : runS lst0 (l.take nx ++ mkP E nx pcs) = ⟨had ++ [pcs.flatten], true, E, 0, [], (nx : Int) + pcs.length, (nx : Int) + pcs.length⟩ := by
    rw [runS_append, hst]
    have := all_new (E := E) pcs ⟨had, true, e0, 0, [], nx, nx⟩ hp rfl he (.inl rfl)
    simpa using this
  have htk : (l.take nx ++ (mkP E nx pcs ++ l.drop (nx + pcs.length))).take (nx + pcs.length) = l.take nx ++ mkP E nx pcs := by
    rw [← List.append_assoc, List.take_append_of_le_length (by rw [List.length_append, hln, mkP_len]; exact Nat.le_refl _), List.take_of_length_le (by rw [List.length_append, hln, mkP_len]; exact Nat.le_refl _)]
  have hdr : (l.take nx ++ (mkP E nx pcs ++ l.drop (nx + pcs.length))).drop (nx + pcs.length) = l.drop (nx + pcs.length) := by
    rw [← List.append_assoc, List.drop_append_of_le_length (by rw [List.length_append, hln, mkP_len]; exact Nat.le_refl _), List.drop_of_length_le (by rw [List.length_append, hln, mkP_len]; exact Nat.le_refl _), List.nil_append]
  have hall := old_run (E := E) (t := ⟨had ++ [pcs.flatten], true, E, 0, [], (nx : Int) + pcs.length, (nx : Int) + pcs.length⟩) (.inr rfl) _ hold
  have hfull : runS lst0 (l.take nx ++ (mkP E nx pcs ++ l.drop (nx + pcs.length))) = runS ⟨had ++ [pcs.flatten], true, E, 0, [], (nx : Int) + pcs.length, (nx : Int) + pcs.length⟩ (l.drop (nx + pcs.length)) := by
    rw [← List.append_assoc, runS_append, hrun]
  refine ⟨?_, h.pos, ⟨E, Int.le_refl _, ?_⟩, ?_, ?_, ?_⟩
  · simp only [List.length_append, hln, mkP_len, List.length_drop]; omega
  · rw [htk, hrun]; simp
  · rw [hfull, hall.1]
  · rw [hfull, hall.2]; simp
  · rw [hdr]; exact hold
/-- A crash within the adding of a record. -/
theorem crash_inv {l : List LSc} {had : List (List Int)} {nx : Nat} {E : Int} (h : LogInv l had nx E) (hv : ∀ s ∈ l, s.v = true → 1 ≤ s.e) (pcs : List (List Int)) (hp : pcs ≠ []) (q : List LSc) (hm : MixP (l.drop nx) (mkP E nx pcs) q) :
    (runS lst0 (l.take nx ++ q)).out = had ∨ (runS lst0 (l.take nx ++ q)).out = had ++ [pcs.flatten] := by
  obtain ⟨e0, he, hst⟩ := h.st
  have ho := h.out
  rw [run_split l nx, hst] at ho
  have := crash_mix (E := E) pcs (l.drop nx) q ⟨had, true, e0, 0, [], nx, nx⟩ hp rfl he (by have := h.pos; omega) rfl rfl hm (fun s hs hvs => ⟨hv s (List.mem_of_mem_drop hs) hvs, h.old s hs hvs⟩) ho
  rw [runS_append, hst]
  exact this.imp (·.1) (·.1)
-- @PROGRAM
def toSc (B : List Int) : LSc := ⟨secIs B, getL B 0, getL B 4, decide (rd B 8 = 1), secPiece B⟩
def secsF (S : Int → List Int) : Int → Nat → List LSc
  | _, 0 => []
  | a, d + 1 => toSc (S a) :: secsF S (a + 1) d
theorem open_told {b : List Int} {L : List S96} {K0 : Nat} (first last : Int) (hf : 0 ≤ first) (hl : last < 400) (S : Int → List Int)
    (hS : ∀ a, first ≤ a → a ≤ last → okB (S a)) (hrS : ∀ a k, first ≤ a → a ≤ last → K0 < k → spec_ReadSector.f k b L a = some (S a, true)) (hrI : ∀ a k, first ≤ a → a ≤ last → K0 < k → impl_ReadSector.f k b L a = some (S a, true)) :
    ∀ (d : Nat) (a : Int) (out : List (List Int)) (ends : List Int) (most : Int) (goes : Bool) (least within : Int) (rec : List Int) (number next : Int),
      a + d = last + 1 → first ≤ a → 0 ≤ most → most ≤ 1000000 → (goes = true → number = a - first) → (out.length : Int) ≤ a - first → (ends.length : Int) ≤ a - first → ((rec.length + sumB out : Nat) : Int) ≤ 44 * (a - first) →
      ∃ (out' : List (List Int)) (most' next' : Int) (ends' : List Int), (∀ kS, 4 * d + K0 + 300 ≤ kS → spec_LogOpen.l0 kS last out most goes least within rec number a b L first last next 0 = some (if most' = 1000000 then (0, 0, 0, 0, [], false) else (first, last, next', wrap64 (most' + 1), out', true))) ∧
        (∀ kI, 4 * d + K0 + 300 ≤ kI → impl_logOf.l0 kI first last out ends rec least within (!goes) a b L first last next (most + 1) = some (first, last, next', most' + 1, out', ends')) ∧ 0 ≤ most' ∧ most' ≤ 1000000 ∧ out'.length ≤ 400 ∧ sumB out' ≤ 17600 ∧ out' = (runS ⟨out, goes, least, within, rec, number, next⟩ (secsF S a d)).out ∧ next' = (runS ⟨out, goes, least, within, rec, number, next⟩ (secsF S a d)).next ∧ most' = mostS most (secsF S a d) := by
  intro d
  induction d with
  | zero =>
    intro a out ends most goes least within rec number next ha hfa m0 m1 hn ho he hr
    refine ⟨out, most, next, ends, fun kS hkS => ?_, fun kI hkI => ?_, m0, m1, by omega, by omega, rfl, rfl, rfl⟩
    · obtain ⟨kS, rfl⟩ : ∃ m, kS = m + 1 := ⟨kS - 1, by omega⟩
      simp only [spec_LogOpen.l0]
      rw [if_neg (by omega)]
      split <;> rfl
    · obtain ⟨kI, rfl⟩ : ∃ m, kI = m + 1 := ⟨kI - 1, by omega⟩
      simp only [impl_logOf.l0]
      rw [if_neg (by omega)]
  | succ d ih =>
    intro a out ends most goes least within rec number next ha hfa m0 m1 hn ho he hr
    have hB := hS a hfa (by omega)
    have hm : 0 ≤ mostB (S a) most ∧ mostB (S a) most ≤ 1000000 := by
      unfold mostB
      split
      · rename_i ok
        have := (secIs_kind ok).1
        split <;> omega
      · omega
    have eS : ∀ kS, 4 * d + K0 + 300 ≤ kS → _ := fun kS (hkS : 4 * d + K0 + 300 ≤ kS) => specStep (k := kS) last out most goes least within rec number a first next (by omega) (hrS a _ hfa (by omega) (by omega)) hB (by omega) (by omega) (by omega) (fun g => by have := hn g; omega) (by omega) (by omega)
    have eI : ∀ kI, 4 * d + K0 + 300 ≤ kI → _ := fun kI (hkI : 4 * d + K0 + 300 ≤ kI) => implStep (k := kI) last out ends most goes least within rec number a first next (by omega) (hrI a _ hfa (by omega) (by omega)) hB (by omega) (by omega) (by omega) (by omega) hn ⟨hf, hfa⟩ (by omega) ⟨m0, m1⟩
    by_cases hacc : accB goes (S a) number least within = true
    · simp only [if_pos hacc] at eS eI
      have g : goes = true := by unfold accB at hacc; rw [Bool.and_eq_true] at hacc; exact hacc.1
      have ok : secIs (S a) = true := by unfold accB at hacc; rw [Bool.and_eq_true, Bool.and_eq_true] at hacc; exact hacc.2.1
      have hnum := hn g
      have hp := (secPiece_len hB (secIs_kind ok).2.1).2
      have hac : lac ⟨out, goes, least, within, rec, number, next⟩ (toSc (S a)) = true := hacc
      by_cases c8 : rd (S a) 8 = 1
      · simp only [if_pos c8] at eS eI
        have hst : lstp ⟨out, goes, least, within, rec, number, next⟩ (toSc (S a)) = ⟨out, true, getL (S a) 0, getL (S a) 0, rec ++ secPiece (S a), number + 1, next⟩ := by unfold lstp; rw [if_pos hac, if_pos (show (toSc (S a)).m = true from decide_eq_true c8)]; rfl
        obtain ⟨o, m, n, e, h1, h2, h3⟩ := ih (a + 1) out ends (mostB (S a) most) true (getL (S a) 0) (getL (S a) 0) (rec ++ secPiece (S a)) (number + 1) next (by omega) (by omega) hm.1 hm.2 (fun _ => by omega) (by omega) (by omega) (by rw [List.length_append]; omega)
        refine ⟨o, m, n, e, fun kS hkS => ?_, fun kI hkI => ?_, by simp only [secsF, runS_cons, hst]; exact h3⟩
        · obtain ⟨kS, rfl⟩ : ∃ m, kS = m + 4 := ⟨kS - 4, by omega⟩
          rw [eS kS (by omega)]; exact h1 kS (by omega)
        · obtain ⟨kI, rfl⟩ : ∃ m, kI = m + 3 := ⟨kI - 3, by omega⟩
          rw [eI kI (by omega)]; exact h2 kI (by omega)
      · simp only [if_neg c8] at eS eI
        have hst : lstp ⟨out, goes, least, within, rec, number, next⟩ (toSc (S a)) = ⟨out ++ [rec ++ secPiece (S a)], true, getL (S a) 0, 0, [], number + 1, number + 1⟩ := by unfold lstp; rw [if_pos hac, if_neg (show ¬ (toSc (S a)).m = true from fun h => c8 (of_decide_eq_true h))]; rfl
        have hsum : sumB (out ++ [rec ++ secPiece (S a)]) = sumB out + (rec.length + (secPiece (S a)).length) := by unfold sumB; simp
        obtain ⟨o, m, n, e, h1, h2, h3⟩ := ih (a + 1) (out ++ [rec ++ secPiece (S a)]) (ends ++ [number + 1]) (mostB (S a) most) true (getL (S a) 0) 0 [] (number + 1) (number + 1) (by omega) (by omega) hm.1 hm.2 (fun _ => by omega) (by rw [List.length_append, List.length_singleton]; omega) (by rw [List.length_append, List.length_singleton]; omega) (by rw [hsum, List.length_nil]; omega)
        refine ⟨o, m, n, e, fun kS hkS => ?_, fun kI hkI => ?_, by simp only [secsF, runS_cons, hst]; exact h3⟩
        · obtain ⟨kS, rfl⟩ : ∃ m, kS = m + 4 := ⟨kS - 4, by omega⟩
          rw [eS kS (by omega)]; exact h1 kS (by omega)
        · obtain ⟨kI, rfl⟩ : ∃ m, kI = m + 3 := ⟨kI - 3, by omega⟩
          rw [eI kI (by omega)]; exact h2 kI (by omega)
    · simp only [if_neg hacc] at eS eI
      have hst : lstp ⟨out, goes, least, within, rec, number, next⟩ (toSc (S a)) = ⟨out, false, least, within, rec, number, next⟩ := by unfold lstp; rw [if_neg (show ¬ lac ⟨out, goes, least, within, rec, number, next⟩ (toSc (S a)) = true from hacc)]
      obtain ⟨o, m, n, e, h1, h2, h3⟩ := ih (a + 1) out ends (mostB (S a) most) false least within rec number next (by omega) (by omega) hm.1 hm.2 (fun h => by cases h) (by omega) (by omega) (by omega)
      refine ⟨o, m, n, e, fun kS hkS => ?_, fun kI hkI => ?_, by simp only [secsF, runS_cons, hst]; exact h3⟩
      · obtain ⟨kS, rfl⟩ : ∃ m, kS = m + 4 := ⟨kS - 4, by omega⟩
        rw [eS kS (by omega)]; exact h1 kS (by omega)
      · obtain ⟨kI, rfl⟩ : ∃ m, kI = m + 3 := ⟨kI - 3, by omega⟩
        rw [eI kI (by omega)]; exact h2 kI (by omega)
/-- The sectors of a log's region. -/
def secsL (b : List Int) (a1 a2 : Int) : List LSc := secsF (fun a => readM b [] a) a1 (a2 - a1 + 1).toNat
/-- What opening a right disk tells. -/
theorem told_open (b : List Int) (a1 a2 : Int) (hb : b.length ≤ 140737488351232) (hbb : ∀ x ∈ b, 0 ≤ x ∧ x < 256) (hd : dOk b [] = true) (g0 : 0 ≤ a1) (g1 : a1 ≤ a2) (g2 : a2 < ((b.length / 64 : Nat) : Int)) (hm : mostS 0 (secsL b a1 a2) < 1000000) :
    (∀ k, 2500 ≤ k → spec_LogOpen.f k b [] a1 a2 = some (a1, a2, (runS lst0 (secsL b a1 a2)).next, mostS 0 (secsL b a1 a2) + 1, (runS lst0 (secsL b a1 a2)).out, true)) ∧
    (∀ k, 2500 ≤ k → impl_LogOpen.f k b [] a1 a2 = some (a1, a2, (runS lst0 (secsL b a1 a2)).next, mostS 0 (secsL b a1 a2) + 1, (runS lst0 (secsL b a1 a2)).out, true)) ∧
    (runS lst0 (secsL b a1 a2)).out.length ≤ 400 ∧ sumB (runS lst0 (secsL b a1 a2)).out ≤ 17600 := by
  have hL : ([] : List S96).length ≤ 140737488351232 := by simp
  have hLb : ∀ x ∈ ([] : List S96), ∀ y ∈ x.f1, 0 ≤ y ∧ y < 256 := fun x h => by simp at h
  have hrS : ∀ k, 2500 ≤ k → spec_l12Region.f k b [] a1 a2 = _ := fun k hk => specRegion_eq (D := dOk b []) a1 a2 hb (specOk_eq b [] hb hL (by simp; omega))
  have hrI : ∀ k, 2500 ≤ k → impl_canOpen.f k b [] a1 a2 = _ := fun k hk => implRegion_eq (D := dOk b []) a1 a2 hb (implOk_eq b [] hb hL (by simp; omega))
  have hG : (dOk b [] && decide (0 ≤ a1 ∧ a1 ≤ a2 ∧ a2 < ((b.length / 64 : Nat) : Int))) = true := by rw [hd, decide_eq_true (by omega)]; rfl
  have hi := (dOk_iff hd).1
  have hro : ∀ a, a1 ≤ a → a ≤ a2 → rdOk b [] a = true := fun a h0 h1 => by unfold rdOk; rw [hd, decide_eq_true (by omega)]; rfl
  obtain ⟨o, m, n, e, h1, h2, m0, m1, o1, o2, e1, e2, e3⟩ := open_told (b := b) (L := []) (K0 := 3) a1 a2 g0 (by omega) (fun a => readM b [] a) (fun a h0 h1 => readM_ok (hro a h0 h1) hbb hLb)
    (fun a k h0 h1 hk => by rw [specRead_eq b [] a hb hL (by simpa using hk), hro a h0 h1]) (fun a k h0 h1 hk => by rw [implRead_eq b [] a hb hL (by simpa using hk), hro a h0 h1]) (a2 - a1 + 1).toNat a1 [] [] 0 true 1 0 [] 0 0 (by omega) (by omega) (by omega) (by omega) (fun _ => by omega) (by simp) (by simp) (by simp [sumB])
  have hd4 : 4 * (a2 - a1 + 1).toNat ≤ 1600 := by omega
  have e1 : o = (runS lst0 (secsL b a1 a2)).out := e1
  have e2 : n = (runS lst0 (secsL b a1 a2)).next := e2
  have e3 : m = mostS 0 (secsL b a1 a2) := e3
  subst e1 e2 e3
  refine ⟨fun k hk => ?_, fun k hk => ?_, o1, o2⟩
  · unfold spec_LogOpen.f
    rw [Option.bind_some, hrS k hk, hG, Option.bind_some, if_pos rfl, h1 k (by omega), if_neg (by omega), show wrap64 (mostS 0 (secsL b a1 a2) + 1) = mostS 0 (secsL b a1 a2) + 1 from wrap_in (by omega) (by omega)]
  · unfold impl_LogOpen.f impl_logOf.f
    have := h2 k (by omega)
    rw [Bool.not_true, show (0 : Int) + 1 = 1 from rfl] at this
    rw [hrI k hk, hG, Option.bind_some, if_pos rfl, this, Option.bind_some]
    simp only []
    rw [if_neg (by omega)]
theorem rd_pre (l r : List Int) (i : Nat) (h : i < l.length) : rd (l ++ r) (i : Int) = rd l (i : Int) := by
  unfold rd
  simp [List.getElem?_append_left h]
theorem lsB_split (e n kind : Int) (p : List Int) : lsB e n kind p = [e % 256, e / 256 % 256, e / 65536 % 256, e / 16777216 % 256, n % 256, n / 256 % 256, n / 65536 % 256, n / 16777216 % 256, kind, (p.length : Int) % 256] ++ (List.replicate 6 0 ++ (p ++ (List.replicate (44 - p.length) 0 ++ lowB (sumF 2166136261 (lsHead e n kind p))))) := by
  unfold lsB lsHead lowB
  simp
/-- A piece's sector, read. -/
theorem sc_new (e n kind : Int) (p : List Int) (he : 1 ≤ e ∧ e ≤ 1000000) (hn : 0 ≤ n ∧ n < 4294967296) (hp : p.length ≤ 44) (hk : kind = 2 ∨ kind = 1 ∧ p.length = 44) : toSc (lsB e n kind p) = ⟨true, e, n, decide (kind = 1), p⟩ := by
  have h0 : getL (lsB e n kind p) 0 = e := by
    rw [lsB_split]; unfold getL
    rw [rd_pre _ _ 0 (by simp), rd_pre _ _ (0 + 1) (by simp), rd_pre _ _ (0 + 2) (by simp), rd_pre _ _ (0 + 3) (by simp)]
    simp [rd]; omega
  have h4 : getL (lsB e n kind p) 4 = n := by
    rw [lsB_split]; unfold getL
    rw [rd_pre _ _ 4 (by simp), rd_pre _ _ (4 + 1) (by simp), rd_pre _ _ (4 + 2) (by simp), rd_pre _ _ (4 + 3) (by simp)]
    simp [rd]; omega
  have h8 : rd (lsB e n kind p) 8 = kind := by
    rw [lsB_split, show (8 : Int) = ((8 : Nat) : Int) from rfl, rd_pre _ _ 8 (by simp)]
    simp [rd]
  have h9 : rd (lsB e n kind p) 9 = (p.length : Int) := by
    rw [lsB_split, show (9 : Int) = ((9 : Nat) : Int) from rfl, rd_pre _ _ 9 (by simp)]
    simp [rd]; omega
  have hpc : secPiece (lsB e n kind p) = p := by
    unfold secPiece
    rw [h9, lsB_split, show (16 + (p.length : Int)).toNat = 16 + p.length by omega]
    rw [← List.append_assoc, ← List.append_assoc]
    rw [List.take_append_of_le_length (by simp; omega)]
    rw [List.take_of_length_le (by simp; omega)]
    simp
  unfold toSc
  rw [h0, h4, h8, hpc]
  have hs : secIs (lsB e n kind p) = true := by
    unfold secIs
    rw [h0, h4, h8, h9, hpc]
    simp only [Bool.and_eq_true, Bool.or_eq_true, decide_eq_true_eq]
    refine ⟨⟨⟨he, by omega⟩, ?_⟩, trivial⟩
    rcases hk with h | h
    · exact .inl h
    · exact .inr ⟨h.1, by omega⟩
  rw [hs]
theorem secsF_len (S : Int → List Int) : ∀ (d : Nat) (a : Int), (secsF S a d).length = d
  | 0, _ => rfl
  | d + 1, a => by simp [secsF, secsF_len S d (a + 1)]
theorem secsF_congr {S S' : Int → List Int} : ∀ (d : Nat) (a : Int), (∀ x, a ≤ x → x < a + d → S x = S' x) → secsF S a d = secsF S' a d
  | 0, _, _ => rfl
  | d + 1, a, h => by
    unfold secsF
    rw [h a (by omega) (by omega), secsF_congr d (a + 1) (fun x h1 h2 => h x (by omega) (by omega))]
theorem secsF_add (S : Int → List Int) : ∀ (d d' : Nat) (a : Int), secsF S a (d + d') = secsF S a d ++ secsF S (a + d) d'
  | 0, d', a => by simp [secsF]
  | d + 1, d', a => by
    rw [show d + 1 + d' = (d + d') + 1 by omega]
    simp only [secsF, List.cons_append]
    rw [secsF_add S d d' (a + 1), show a + 1 + (d : Int) = a + ((d + 1 : Nat) : Int) by omega]
/-- The pieces, one behind the other, in a region. -/
theorem secsF_new (S : Int → List Int) (E : Int) : ∀ (pcs : List (List Int)) (a n : Int), (∀ (i : Nat) (p : List Int), pcs[i]? = some p → toSc (S (a + i)) = ⟨true, E, n + i, decide (i + 1 < pcs.length), p⟩) → secsF S a pcs.length = mkP E n pcs
  | [], _, _, _ => rfl
  | [p], a, n, h => by
    have := h 0 p rfl
    simp only [List.length_cons, List.length_nil, secsF, mkP]
    simpa using this
  | p :: q :: r, a, n, h => by
    have h0 := h 0 p rfl
    have ih := secsF_new S E (q :: r) (a + 1) (n + 1) (fun i x hx => by
      have := h (i + 1) x (by simpa using hx)
      rw [show a + 1 + (i : Int) = a + ((i + 1 : Nat) : Int) by omega, this]
      simp; omega)
    rw [show (p :: q :: r).length = (q :: r).length + 1 from rfl]
    simp only [secsF, mkP]
    rw [ih]
    simp at h0
    rw [h0]
theorem mixP_nil (r : List LSc) : MixP r [] r := by cases r <;> rfl
/-- Some of the pieces, in a region. -/
theorem secsF_mix (S S' : Int → List Int) (E : Int) : ∀ (pcs : List (List Int)) (a n : Int) (d : Nat), pcs.length ≤ d → (∀ (i : Nat) (p : List Int), pcs[i]? = some p → S' (a + i) = S (a + i) ∨ toSc (S' (a + i)) = ⟨true, E, n + i, decide (i + 1 < pcs.length), p⟩) → (∀ x, a + pcs.length ≤ x → x < a + d → S' x = S x) → MixP (secsF S a d) (mkP E n pcs) (secsF S' a d)
  | [], a, n, d, _, _, h2 => by
    rw [secsF_congr (S := S') (S' := S) d a (fun x h1 h3 => h2 x (by simpa using h1) h3)]
    exact mixP_nil _
  | [p], a, n, d + 1, _, h, h2 => by
    have h0 := h 0 p rfl
    simp only [secsF, mkP]
    rw [secsF_congr (S := S') (S' := S) d (a + 1) (fun x h1 h3 => h2 x (by simpa using h1) (by omega))]
    refine ⟨?_, mixP_nil _⟩
    rcases h0 with h0 | h0
    · left; simp at h0; rw [h0]
    · right; simpa using h0
  | p :: q :: r, a, n, d + 1, hd, h, h2 => by
    have h0 := h 0 p rfl
    have ih := secsF_mix S S' E (q :: r) (a + 1) (n + 1) d (by simp at hd ⊢; omega) (fun i x hx => by
      have := h (i + 1) x (by simpa using hx)
      rw [show a + 1 + (i : Int) = a + ((i + 1 : Nat) : Int) by omega]
      refine this.imp id (fun e => e.trans ?_)
      simp; omega) (fun x h1 h3 => h2 x (by simp at h1 ⊢; omega) (by omega))
    simp only [secsF, mkP]
    refine ⟨?_, ih⟩
    rcases h0 with h0 | h0
    · left; simp at h0; rw [h0]
    · right; simpa using h0
  | [_], _, _, 0, hd, _, _ => by simp at hd
  | _ :: _ :: _, _, _, 0, hd, _, _ => by simp at hd
theorem spl_get (b ys : List Int) (o i : Nat) (h : o + ys.length ≤ b.length) : (spl b o ys)[i]? = if i < o then b[i]? else if i < o + ys.length then ys[i - o]? else b[i]? := by
  unfold spl
  rw [List.getElem?_append, List.length_append, List.length_take, Nat.min_eq_left (by omega)]
  by_cases h1 : i < o + ys.length
  · rw [if_pos h1, List.getElem?_append, List.length_take, Nat.min_eq_left (by omega)]
    by_cases h2 : i < o
    · rw [if_pos h2, if_pos h2, List.getElem?_take, if_pos h2]
    · rw [if_neg h2, if_neg h2, if_pos h1]
  · rw [if_neg h1, if_neg (by omega), if_neg h1, List.getElem?_drop]
    congr 1; omega
theorem secB_get (b : List Int) (at_ : Nat) (j : Nat) : (secB b (at_ : Int))[j]? = if j < 64 then b[at_ * 64 + j]? else none := by
  unfold secB
  rw [List.getElem?_drop, List.getElem?_take, show (((at_ : Int) + 1) * 64).toNat = at_ * 64 + 64 by omega, show ((at_ : Int) * 64).toNat = at_ * 64 by omega]
  by_cases h : j < 64
  · rw [if_pos h, if_pos (by omega)]
  · rw [if_neg h, if_neg (by omega)]
theorem secB_sy1 {b : List Int} {x : IW} (hx : wIn b.length x) (at_ : Nat) (hat : at_ * 64 + 64 ≤ b.length) : secB (sy1 b x) (at_ : Int) = if x.f0 = (at_ : Int) then x.f1 else secB b (at_ : Int) := by
  obtain ⟨h1, h2, h3⟩ := hx
  obtain ⟨n, hn⟩ : ∃ n : Nat, x.f0 = (n : Int) := ⟨x.f0.toNat, by omega⟩
  rw [hn] at h2 ⊢
  apply List.ext_getElem?
  intro j
  rw [secB_get]
  unfold sy1
  rw [hn, show ((n : Int) * 64).toNat = n * 64 by omega]
  by_cases h : j < 64
  · rw [if_pos h, spl_get _ _ _ _ (by omega)]
    by_cases hc : n = at_
    · subst hc
      rw [if_pos rfl, if_neg (by omega), if_pos (by omega)]; congr 1; omega
    · rw [if_neg (show ¬ ((n : Int) = (at_ : Int)) by omega), secB_get, if_pos h]
      by_cases h5 : at_ * 64 + j < n * 64
      · rw [if_pos h5]
      · rw [if_neg h5, if_neg (by omega)]
  · rw [if_neg h]
    by_cases hc : n = at_
    · subst hc
      rw [if_pos rfl, List.getElem?_eq_none (by omega)]
    · rw [if_neg (by omega), secB_get, if_neg h]
theorem secB_syB (at_ : Nat) : ∀ (L : List IW) (b : List Int), (∀ x ∈ L, wIn b.length x) → at_ * 64 + 64 ≤ b.length → secB (syB b L) (at_ : Int) = lastW (at_ : Int) (secB b (at_ : Int)) L
  | [], b, _, _ => rfl
  | x :: L, b, h, hat => by
    have hx := h x (by simp)
    have hl := sy1_len hx
    show secB (syB (sy1 b x) L) (at_ : Int) = lastW (at_ : Int) (if x.f0 = (at_ : Int) then x.f1 else secB b (at_ : Int)) L
    rw [secB_syB at_ L (sy1 b x) (fun y hy => by rw [hl]; exact h y (by simp [hy])) (by omega), secB_sy1 hx at_ hat]
theorem lastW_mem (at_ : Int) : ∀ (L : List IW) (d : List Int), lastW at_ d L = d ∨ ∃ x ∈ L, x.f0 = at_ ∧ lastW at_ d L = x.f1
  | [], d => .inl rfl
  | x :: L, d => by
    show lastW at_ (if x.f0 = at_ then x.f1 else d) L = d ∨ ∃ y ∈ x :: L, y.f0 = at_ ∧ lastW at_ (if x.f0 = at_ then x.f1 else d) L = y.f1
    rcases lastW_mem at_ L (if x.f0 = at_ then x.f1 else d) with h | ⟨y, hy, h1, h2⟩
    · rw [h]
      by_cases hc : x.f0 = at_
      · rw [if_pos hc]; exact .inr ⟨x, by simp, hc, rfl⟩
      · rw [if_neg hc]; exact .inl rfl
    · exact .inr ⟨y, by simp [hy], h1, h2⟩
theorem lastW_hit (at_ : Int) : ∀ (L : List IW) (d : List Int), (∃ x ∈ L, x.f0 = at_) → ∃ x ∈ L, x.f0 = at_ ∧ lastW at_ d L = x.f1
  | [], _, h => by obtain ⟨x, hx, _⟩ := h; simp at hx
  | x :: L, d, h => by
    show ∃ y ∈ x :: L, y.f0 = at_ ∧ lastW at_ (if x.f0 = at_ then x.f1 else d) L = y.f1
    by_cases hL : ∃ y ∈ L, y.f0 = at_
    · obtain ⟨y, hy, h1, h2⟩ := lastW_hit at_ L (if x.f0 = at_ then x.f1 else d) hL
      exact ⟨y, by simp [hy], h1, h2⟩
    · have hx : x.f0 = at_ := by
        obtain ⟨y, hy, h1⟩ := h
        rcases List.mem_cons.1 hy with rfl | hy
        · exact h1
        · exact absurd ⟨y, hy, h1⟩ hL
      rcases lastW_mem at_ L (if x.f0 = at_ then x.f1 else d) with h1 | ⟨y, hy, h1, _⟩
      · rw [h1, if_pos hx]; exact ⟨x, by simp, hx, rfl⟩
      · exact absurd ⟨y, hy, h1⟩ hL
theorem lwAll_mem (a0 a2 a3 : Int) (l : List Int) (n : Nat) : ∀ (d i : Nat) (x : S96), x ∈ lwAll a0 a2 a3 l n d i ↔ ∃ q, i ≤ q ∧ q < i + d ∧ x = wOne a0 a2 a3 l n q
  | 0, i, x => by simp [lwAll]; intro q h1 h2; omega
  | d + 1, i, x => by
    simp only [lwAll, List.mem_cons, lwAll_mem a0 a2 a3 l n d (i + 1) x]
    constructor
    · rintro (rfl | ⟨q, h1, h2, rfl⟩)
      · exact ⟨i, by omega, by omega, rfl⟩
      · exact ⟨q, by omega, by omega, rfl⟩
    · rintro ⟨q, h1, h2, rfl⟩
      by_cases h : q = i
      · subst h; exact .inl rfl
      · exact .inr ⟨q, by omega, by omega, rfl⟩
theorem dOk_len {b b' : List Int} (h : b'.length = b.length) (hd : dOk b [] = true) : dOk b' [] = true := by
  unfold dOk at hd ⊢; rw [h]; exact hd
theorem readM_nil {b : List Int} (hd : dOk b [] = true) {a : Int} (h0 : 0 ≤ a) (h1 : a < ((b.length / 64 : Nat) : Int)) : readM b [] a = secB b a := by
  unfold readM
  rw [if_pos (by unfold rdOk; rw [hd, decide_eq_true ⟨h0, h1⟩]; rfl)]
  rfl
theorem write_read {b : List Int} {W : List IW} (hin : ∀ x ∈ W, wIn b.length x) (hd : dOk b [] = true) {a : Int} (h0 : 0 ≤ a) (h1 : a < ((b.length / 64 : Nat) : Int)) : readM (syB b W) [] a = lastW a (readM b [] a) W := by
  have hl := syB_len W b hin
  obtain ⟨n, rfl⟩ : ∃ n : Nat, a = (n : Int) := ⟨a.toNat, by omega⟩
  rw [readM_nil (dOk_len hl hd) h0 (by rw [hl]; exact h1), readM_nil hd h0 h1]
  exact secB_syB n W b hin (by omega)
/-- The pieces of a record. -/
def pcsOf (l : List Int) : List (List Int) := (List.range (nP l)).map (pieceAt l)
theorem pcsOf_len (l : List Int) : (pcsOf l).length = nP l := by unfold pcsOf; simp
theorem pcsOf_at {l : List Int} {i : Nat} {p : List Int} (h : (pcsOf l)[i]? = some p) : i < nP l ∧ p = pieceAt l i := by
  unfold pcsOf at h
  rw [List.getElem?_map] at h
  by_cases hi : i < nP l
  · rw [List.getElem?_range hi] at h
    simp at h
    exact ⟨hi, h.symm⟩
  · rw [List.getElem?_eq_none (by simp; omega)] at h
    simp at h
theorem pcsOf_ne (l : List Int) : pcsOf l ≠ [] := by
  have : (pcsOf l).length ≠ 0 := by rw [pcsOf_len]; unfold nP; omega
  intro h; rw [h] at this; exact this rfl
theorem pcs_flat (l : List Int) : ∀ n, ((List.range n).map (pieceAt l)).flatten = l.take (n * 44)
  | 0 => by simp
  | n + 1 => by
    rw [List.range_succ, List.map_append, List.flatten_append, pcs_flat l n]
    unfold pieceAt
    simp only [List.map_cons, List.map_nil, List.flatten_cons, List.flatten_nil, List.append_nil]
    rw [Nat.add_mul, Nat.one_mul, ← List.take_add]
theorem pcsOf_flat (l : List Int) : (pcsOf l).flatten = l := by
  unfold pcsOf
  rw [pcs_flat, List.take_of_length_le]
  unfold nP; omega
/-- The write of piece i. -/
theorem wOne_at {first E : Int} {nx : Nat} {l : List Int} {i : Nat} (hf : 0 ≤ first ∧ first ≤ 400) (hn : nx ≤ 400) (hl : l.length ≤ 4000) (hi : i < nP l) : (wOne first nx E l (nP l) i).f0 = first + nx + i ∧ (1 ≤ E ∧ E ≤ 1000000 → toSc (wOne first nx E l (nP l) i).f1 = ⟨true, E, (nx : Int) + i, decide (i + 1 < nP l), pieceAt l i⟩) := by
  have hnp := (nP_le hl)
  have w1 : wrap64 (wrap64 (first + nx) + (i : Int)) = first + nx + i := by rw [wrap_in (x := first + nx) (by omega) (by omega), wrap_in (by omega) (by omega)]
  have w2 : wrap64 ((nx : Int) + (i : Int)) = (nx : Int) + i := wrap_in (by omega) (by omega)
  unfold wOne
  refine ⟨w1, fun hE => ?_⟩
  simp only []
  rw [w2]
  by_cases h : i + 1 < nP l
  · rw [if_pos h, sc_new E _ 1 _ hE (by omega) (pieceAt_len l i) (.inr ⟨rfl, by unfold pieceAt; rw [List.length_take, List.length_drop]; have := hnp.2.2.1; have : (i + 1) * 44 ≤ (nP l - 1) * 44 := Nat.mul_le_mul_right _ (by omega); omega⟩), decide_eq_true h]; rfl
  · rw [if_neg h, sc_new E _ 2 _ hE (by omega) (pieceAt_len l i) (.inl rfl), decide_eq_false h]; rfl
section
variable {b : List Int} {first last E : Int} {nx : Nat} {l : List Int}
/-- The writes of a record, or some of them. -/
def wAll (first E : Int) (nx : Nat) (l : List Int) : List S96 := lwAll first nx E l (nP l) (nP l) 0
theorem wAl_in (hf : 0 ≤ first) (hl : last < ((b.length / 64 : Nat) : Int)) (hd : dOk b [] = true) (hr : l.length ≤ 4000) (hn : first + nx + nP l ≤ last + 1) : ∀ x ∈ wAll first E nx l, wIn b.length x := by
  have hi := (dOk_iff hd).1
  have hnp := nP_le hr
  intro x hx
  obtain ⟨q, _, h2, rfl⟩ := (lwAll_mem _ _ _ _ _ _ _ x).1 hx
  have := (wOne_at (E := E) (first := first) (nx := nx) (l := l) (i := q) (by omega) (by omega) hr (by omega)).1
  refine ⟨by rw [this]; omega, by rw [this]; omega, ?_⟩
  unfold wOne
  exact lsB_len _ _ _ _ (pieceAt_len l q)
theorem read_out {W : List S96} (hW : ∀ x ∈ W, x ∈ wAll first E nx l) (hf : 0 ≤ first ∧ first ≤ 400) (hnx : nx ≤ 400) (hr : l.length ≤ 4000) (d : List Int) (a : Int) (ha : a < first + nx ∨ first + nx + nP l ≤ a) : lastW a d W = d := by
  rcases lastW_mem a W d with h | ⟨x, hx, h1, _⟩
  · exact h
  · obtain ⟨q, _, h2, rfl⟩ := (lwAll_mem _ _ _ _ _ _ _ x).1 (hW x hx)
    have := (wOne_at (E := E) (first := first) (nx := nx) (l := l) (i := q) hf hnx hr (by omega)).1
    omega
theorem read_in {W : List S96} (hW : ∀ x ∈ W, x ∈ wAll first E nx l) (hf : 0 ≤ first ∧ first ≤ 400) (hnx : nx ≤ 400) (hr : l.length ≤ 4000) (d : List Int) (i : Nat) (hi : i < nP l) : lastW (first + nx + i) d W = d ∨ lastW (first + nx + i) d W = (wOne first nx E l (nP l) i).f1 := by
  rcases lastW_mem (first + nx + i) W d with h | ⟨x, hx, h1, h3⟩
  · exact .inl h
  · obtain ⟨q, _, h2, rfl⟩ := (lwAll_mem _ _ _ _ _ _ _ x).1 (hW x hx)
    have := (wOne_at (E := E) (first := first) (nx := nx) (l := l) (i := q) hf hnx hr (by omega)).1
    obtain rfl : q = i := by omega
    exact .inr h3
theorem read_all (hf : 0 ≤ first ∧ first ≤ 400) (hnx : nx ≤ 400) (hr : l.length ≤ 4000) (d : List Int) (i : Nat) (hi : i < nP l) : lastW (first + nx + i) d (wAll first E nx l) = (wOne first nx E l (nP l) i).f1 := by
  obtain ⟨x, hx, h1, h3⟩ := lastW_hit (first + nx + i) (wAll first E nx l) d ⟨wOne first nx E l (nP l) i, (lwAll_mem _ _ _ _ _ _ _ _).2 ⟨i, by omega, by omega, rfl⟩, (wOne_at (E := E) hf hnx hr hi).1⟩
  obtain ⟨q, _, h2, rfl⟩ := (lwAll_mem _ _ _ _ _ _ _ x).1 hx
  have := (wOne_at (E := E) (first := first) (nx := nx) (l := l) (i := q) hf hnx hr (by omega)).1
  obtain rfl : q = i := by omega
  exact h3
/-- A record's pieces in the region. -/
theorem add_secs (hf : 0 ≤ first) (hl : last < ((b.length / 64 : Nat) : Int)) (hd : dOk b [] = true) (hr : l.length ≤ 4000) (hn : first + nx + nP l ≤ last + 1) (hE : 1 ≤ E ∧ E ≤ 1000000) :
    secsL (syB b (wAll first E nx l)) first last = (secsL b first last).take nx ++ (mkP E nx (pcsOf l) ++ (secsL b first last).drop (nx + nP l)) := by
  have hi := (dOk_iff hd).1
  have hin := wAl_in (E := E) hf hl hd hr hn
  obtain ⟨r, hD⟩ : ∃ r : Nat, (last - first + 1).toNat = nx + (nP l + r) := ⟨(last - first + 1).toNat - (nx + nP l), by omega⟩
  have hS : ∀ x, 0 ≤ x → x ≤ last → readM (syB b (wAll first E nx l)) [] x = lastW x (readM b [] x) (wAll first E nx l) := fun x h0 h1 => write_read hin hd h0 (by omega)
  unfold secsL
  rw [hD, secsF_add, secsF_add, secsF_add, secsF_add]
  rw [secsF_congr (S := fun a => readM (syB b (wAll first E nx l)) [] a) (S' := fun a => readM b [] a) nx first (fun x h0 h1 => (hS x (by omega) (by omega)).trans (read_out (fun _ h => h) (by omega) (by omega) hr _ x (by omega)))]
  rw [secsF_congr (S := fun a => readM (syB b (wAll first E nx l)) [] a) (S' := fun a => readM b [] a) r (first + nx + nP l) (fun x h0 h1 => (hS x (by omega) (by omega)).trans (read_out (fun _ h => h) (by omega) (by omega) hr _ x (by omega)))]
  have hnew := secsF_new (fun a => readM (syB b (wAll first E nx l)) [] a) E (pcsOf l) (first + nx) nx (fun i p hp => by
    obtain ⟨h1, rfl⟩ := pcsOf_at hp
    rw [hS _ (by omega) (by omega), read_all (by omega) (by omega) hr _ i h1, pcsOf_len]
    exact (wOne_at (by omega) (by omega) hr h1).2 hE)
  rw [pcsOf_len] at hnew
  rw [hnew, List.take_append_of_le_length (by rw [secsF_len]; exact Nat.le_refl _), List.take_of_length_le (by rw [secsF_len]; exact Nat.le_refl _)]
  congr 2
  rw [← List.append_assoc, List.drop_append_of_le_length (by rw [List.length_append, secsF_len, secsF_len]; exact Nat.le_refl _), List.drop_of_length_le (by rw [List.length_append, secsF_len, secsF_len]; exact Nat.le_refl _), List.nil_append]
/-- Some of them. -/
theorem crash_secs {W : List S96} (hW : ∀ x ∈ W, x ∈ wAll first E nx l) (hf : 0 ≤ first) (hl : last < ((b.length / 64 : Nat) : Int)) (hd : dOk b [] = true) (hr : l.length ≤ 4000) (hn : first + nx + nP l ≤ last + 1) (hE : 1 ≤ E ∧ E ≤ 1000000) :
    ∃ q, secsL (syB b W) first last = (secsL b first last).take nx ++ q ∧ MixP ((secsL b first last).drop nx) (mkP E nx (pcsOf l)) q := by
  have hi := (dOk_iff hd).1
  have hin : ∀ x ∈ W, wIn b.length x := fun x hx => wAl_in (E := E) hf hl hd hr hn x (hW x hx)
  obtain ⟨r, hD⟩ : ∃ r : Nat, (last - first + 1).toNat = nx + r := ⟨(last - first + 1).toNat - nx, by omega⟩
  have hS : ∀ x, 0 ≤ x → x ≤ last → readM (syB b W) [] x = lastW x (readM b [] x) W := fun x h0 h1 => write_read hin hd h0 (by omega)
  refine ⟨secsF (fun a => readM (syB b W) [] a) (first + nx) r, ?_, ?_⟩
  · unfold secsL
    rw [hD, secsF_add, secsF_add]
    rw [secsF_congr (S := fun a => readM (syB b W) [] a) (S' := fun a => readM b [] a) nx first (fun x h0 h1 => (hS x (by omega) (by omega)).trans (read_out hW (by omega) (by omega) hr _ x (by omega)))]
    rw [List.take_append_of_le_length (by rw [secsF_len]; exact Nat.le_refl _), List.take_of_length_le (by rw [secsF_len]; exact Nat.le_refl _)]
  · have hdrop : (secsL b first last).drop nx = secsF (fun a => readM b [] a) (first + nx) r := by
      unfold secsL
      rw [hD, secsF_add, List.drop_append_of_le_length (by rw [secsF_len]; exact Nat.le_refl _), List.drop_of_length_le (by rw [secsF_len]; exact Nat.le_refl _), List.nil_append]
    rw [hdrop]
    refine secsF_mix _ _ E (pcsOf l) (first + nx) nx r (by rw [pcsOf_len]; omega) (fun i p hp => ?_) (fun x h0 h1 => ?_)
    · obtain ⟨h1, rfl⟩ := pcsOf_at hp
      rw [hS _ (by omega) (by omega), pcsOf_len]
      rcases read_in hW (by omega) (by omega) hr (readM b [] (first + nx + i)) i h1 with h | h
      · exact .inl h
      · right; rw [h]; exact (wOne_at (by omega) (by omega) hr h1).2 hE
    · rw [pcsOf_len] at h0
      exact (hS x (by omega) (by omega)).trans (read_out hW (by omega) (by omega) hr _ x (by omega))
end
theorem secsF_ok (S : Int → List Int) : ∀ (d : Nat) (a : Int), ∀ s ∈ secsF S a d, s.v = true → 1 ≤ s.e
  | 0, _, s, h, _ => by simp [secsF] at h
  | d + 1, a, s, h, hv => by
    rcases List.mem_cons.1 h with rfl | h
    · exact (secIs_kind (B := S a) hv).1.1
    · exact secsF_ok S d (a + 1) s h hv
theorem mostS_bound : ∀ (l : List LSc) (m c : Int), m ≤ c → (∀ s ∈ l, s.v = true → s.e ≤ c) → mostS m l ≤ c
  | [], _, _, h, _ => h
  | s :: l, m, c, h, hs => by
    refine mostS_bound l (lmst m s) c ?_ (fun x hx => hs x (by simp [hx]))
    unfold lmst
    split
    · rename_i hv
      have := hs s (by simp) hv
      split <;> omega
    · exact h
theorem mixP_mem : ∀ (r P q : List LSc), MixP r P q → ∀ s ∈ q, s ∈ r ∨ s ∈ P
  | r, [], q, h, s, hs => by
    have h : q = r := by cases r <;> exact h
    subst h; exact .inl hs
  | a :: r, x :: P, b :: q, h, s, hs => by
    obtain ⟨h1, h2⟩ := h
    rcases List.mem_cons.1 hs with rfl | hs
    · rcases h1 with rfl | rfl <;> simp
    · exact (mixP_mem r P q h2 s hs).imp (fun h => by simp [h]) (fun h => by simp [h])
  | [], _ :: _, _, h, _, _ => by cases h
  | _ :: _, _ :: _, [], h, _, _ => by cases h
/-- A right disk with a log in it, that was opened or added to. -/
structure DI (b : List Int) (first last : Int) (had : List (List Int)) (nx : Nat) (E c : Int) : Prop where
  ok : dOk b [] = true
  inb : ∀ x ∈ b, 0 ≤ x ∧ x < 256
  f0 : 0 ≤ first
  f1 : first ≤ last
  f2 : last < ((b.length / 64 : Nat) : Int)
  inv : LogInv (secsL b first last) had nx E
  ep : ∀ s ∈ secsL b first last, s.v = true → s.e ≤ c
  c0 : 0 ≤ c
  Ec : E ≤ c + 1
theorem DI.len {b : List Int} {first last : Int} {had : List (List Int)} {nx : Nat} {E c : Int} (h : DI b first last had nx E c) : b.length ≤ 25600 := (dOk_iff h.ok).1.2.2
theorem secsL_len (b : List Int) (first last : Int) : (secsL b first last).length = (last - first + 1).toNat := secsF_len _ _ _
theorem DI.open {b : List Int} {first last : Int} {had : List (List Int)} {nx : Nat} {E c : Int} (h : DI b first last had nx E c) (hc : c < 1000000) :
    ∃ E' : Int, (∀ k, 2500 ≤ k → spec_LogOpen.f k b [] first last = some (first, last, (nx : Int), E', had, true)) ∧ (∀ k, 2500 ≤ k → impl_LogOpen.f k b [] first last = some (first, last, (nx : Int), E', had, true)) ∧ had.length ≤ 400 ∧ sumB had ≤ 17600 ∧ DI b first last had nx E' c := by
  have hl := h.len
  have hm := mostS_bound _ 0 c h.c0 h.ep
  obtain ⟨h1, h2, h3, h4⟩ := told_open b first last (by omega) h.inb h.ok h.f0 h.f1 h.f2 (by omega)
  rw [h.inv.out] at h1 h2 h3 h4
  rw [h.inv.next] at h1 h2
  obtain ⟨nx', e1, e2⟩ := open_is (secsL b first last) (secsF_ok _ _ _)
  rw [h.inv.next] at e1
  obtain rfl : nx = nx' := by omega
  rw [h.inv.out] at e2
  exact ⟨_, h1, h2, h3, h4, h.ok, h.inb, h.f0, h.f1, h.f2, e2, h.ep, h.c0, by omega⟩
theorem lowB_in (x : Int) : ∀ y ∈ lowB x, 0 ≤ y ∧ y < 256 := by
  intro y hy
  simp only [lowB, List.mem_cons, List.not_mem_nil, or_false] at hy
  rcases hy with rfl | rfl | rfl | rfl <;> omega
theorem lsB_in {e n kind : Int} {p : List Int} (hk : 0 ≤ kind ∧ kind < 256) (hp : ∀ x ∈ p, 0 ≤ x ∧ x < 256) : ∀ x ∈ lsB e n kind p, 0 ≤ x ∧ x < 256 := by
  intro x hx
  unfold lsB lsHead at hx
  simp only [List.mem_append, List.mem_cons, List.not_mem_nil, or_false, List.mem_replicate] at hx
  rcases hx with (((((h | h) | h | h) | h) | h) | h) | h
  · exact lowB_in _ x h
  · exact lowB_in _ x h
  · rw [h]; exact hk
  · omega
  · omega
  · exact hp x h
  · omega
  · exact lowB_in _ x h
theorem pieceAt_in {l : List Int} (h : ∀ x ∈ l, 0 ≤ x ∧ x < 256) (i : Nat) : ∀ x ∈ pieceAt l i, 0 ≤ x ∧ x < 256 := fun x hx => h x (List.mem_of_mem_drop (List.mem_of_mem_take hx))
theorem wAll_inb {first E : Int} {nx : Nat} {l : List Int} (h : ∀ x ∈ l, 0 ≤ x ∧ x < 256) : ∀ x ∈ wAll first E nx l, ∀ y ∈ x.f1, 0 ≤ y ∧ y < 256 := by
  intro x hx
  obtain ⟨q, _, _, rfl⟩ := (lwAll_mem _ _ _ _ _ _ _ x).1 hx
  unfold wOne
  simp only []
  split <;> exact lsB_in (by omega) (pieceAt_in h q)
theorem syB_inb : ∀ (W : List S96) (b : List Int), (∀ x ∈ W, ∀ y ∈ x.f1, 0 ≤ y ∧ y < 256) → (∀ x ∈ b, 0 ≤ x ∧ x < 256) → ∀ x ∈ syB b W, 0 ≤ x ∧ x < 256
  | [], _, _, hb => hb
  | w :: W, b, hW, hb => by
    refine syB_inb W (sy1 b w) (fun x hx => hW x (by simp [hx])) (fun x hx => ?_)
    unfold sy1 spl at hx
    simp only [List.mem_append] at hx
    rcases hx with (h | h) | h
    · exact hb x (List.mem_of_mem_take h)
    · exact hW w (by simp) x h
    · exact hb x (List.mem_of_mem_drop h)
theorem DI.add {b : List Int} {first last : Int} {had : List (List Int)} {nx : Nat} {E c : Int} (h : DI b first last had nx E c) {l : List Int} (hb : ∀ x ∈ l, 0 ≤ x ∧ x < 256) (hr : l.length ≤ 4000) (hn : first + nx + nP l ≤ last + 1) (hc : c < 1000000) : DI (syB b (wAll first E nx l)) first last (had ++ [l]) (nx + nP l) E (c + 1) := by
  have hin := wAl_in (E := E) h.f0 h.f2 h.ok hr hn
  have hl := syB_len _ b hin
  have hE : 1 ≤ E ∧ E ≤ 1000000 := ⟨h.inv.pos, by have := h.Ec; omega⟩
  have hs := add_secs h.f0 h.f2 h.ok hr hn hE
  have hi := add_inv h.inv (pcsOf l) (pcsOf_ne l) (by rw [pcsOf_len, secsL_len]; omega)
  rw [pcsOf_flat, pcsOf_len, ← hs] at hi
  refine ⟨dOk_len hl h.ok, syB_inb _ b (wAll_inb hb) h.inb, h.f0, h.f1, by rw [hl]; exact h.f2, hi, fun s hs' hv => ?_, by have := h.c0; omega, by have := h.Ec; omega⟩
  rw [hs] at hs'
  rcases List.mem_append.1 hs' with h1 | h1
  · have := h.ep s (List.mem_of_mem_take h1) hv; omega
  rcases List.mem_append.1 h1 with h1 | h1
  · have := (mkP_e E (pcsOf l) nx s h1).1; have := h.Ec; omega
  · have := h.ep s (List.mem_of_mem_drop h1) hv; omega
theorem DI.crash {b : List Int} {first last : Int} {had : List (List Int)} {nx : Nat} {E c : Int} (h : DI b first last had nx E c) {l : List Int} (hb : ∀ x ∈ l, 0 ≤ x ∧ x < 256) (hr : l.length ≤ 4000) (hn : first + nx + nP l ≤ last + 1) (hc : c + 1 < 1000000) {W : List S96} (hW : ∀ x ∈ W, x ∈ wAll first E nx l) :
    ∃ (had' : List (List Int)) (nx' : Nat) (E' : Int), (had' = had ∨ had' = had ++ [l]) ∧ DI (syB b W) first last had' nx' E' (c + 1) := by
  have hin : ∀ x ∈ W, wIn b.length x := fun x hx => wAl_in (E := E) h.f0 h.f2 h.ok hr hn x (hW x hx)
  have hl := syB_len W b hin
  have hE : 1 ≤ E ∧ E ≤ 1000000 := ⟨h.inv.pos, by have := h.Ec; omega⟩
  obtain ⟨q, hs, hm⟩ := crash_secs hW h.f0 h.f2 h.ok hr hn hE
  have hi := crash_inv h.inv (secsF_ok _ _ _) (pcsOf l) (pcsOf_ne l) q hm
  rw [pcsOf_flat, ← hs] at hi
  obtain ⟨nx', _, e2⟩ := open_is (secsL (syB b W) first last) (secsF_ok _ _ _)
  have hep : ∀ s ∈ secsL (syB b W) first last, s.v = true → s.e ≤ c + 1 := fun s hs' hv => by
    rw [hs] at hs'
    rcases List.mem_append.1 hs' with h1 | h1
    · have := h.ep s (List.mem_of_mem_take h1) hv; omega
    rcases mixP_mem _ _ q hm s h1 with h1 | h1
    · have := h.ep s (List.mem_of_mem_drop h1) hv; omega
    · have := (mkP_e E (pcsOf l) nx s h1).1; have := h.Ec; omega
  have hmo := mostS_bound _ 0 (c + 1) (by have := h.c0; omega) hep
  exact ⟨_, nx', _, hi, dOk_len hl h.ok, syB_inb W b (fun x hx => wAll_inb hb x (hW x hx)) h.inb, h.f0, h.f1, by rw [hl]; exact h.f2, e2, hep, by have := h.c0; omega, by omega⟩
theorem dOk_sub {b : List Int} {W : List S96} (hd : dOk b [] = true) (h : ∀ x ∈ W, wIn b.length x) : dOk b W = true := by
  have hi := (dOk_iff hd).1
  unfold dOk at hd ⊢
  rw [Bool.and_eq_true] at hd ⊢
  refine ⟨hd.1, List.all_eq_true.2 (fun x hx => ?_)⟩
  obtain ⟨h1, h2, h3⟩ := h x hx
  unfold wOk
  rw [Bool.and_eq_true, decide_eq_true_eq, decide_eq_true_eq]
  exact ⟨⟨h1, by omega⟩, h3⟩
section
variable {b : List Int} {first last E c : Int} {had : List (List Int)} {nx : Nat} {l : List Int}
theorem DI.nums (h : DI b first last had nx E c) : first + nx ≤ last + 1 ∧ last < 400 ∧ nx ≤ 400 := by
  have h1 := h.inv.le
  have h2 := h.len
  have h3 := h.f0
  have h4 := h.f2
  have h5 := h.f1
  rw [secsL_len] at h1
  omega
theorem DI.room (h : DI b first last had nx E c) : roomL first last nx = last - first + 1 - nx := by
  have h3 := h.f0
  have h4 := h.f1
  obtain ⟨h1, h2, h5⟩ := h.nums
  unfold roomL
  rw [wrap_in (x := last - first) (by omega) (by omega), wrap_in (x := last - first + 1) (by omega) (by omega), wrap_in (x := last - first + 1 - nx) (by omega) (by omega), if_neg (by omega)]
def fits (first last : Int) (nx : Nat) (l : List Int) : Bool := decide (first + nx + nP l ≤ last + 1)
theorem DI.wr (h : DI b first last had nx E c) (hr : l.length ≤ 4000) : wList first last nx E l = if fits first last nx l = true then wAll first E nx l else [] := by
  unfold wList
  rw [h.room]
  by_cases hf : first + nx + nP l ≤ last + 1
  · rw [if_pos ⟨hr, by omega⟩, if_pos (show fits first last nx l = true from decide_eq_true hf)]; rfl
  · rw [if_neg (fun x => hf (by have := x.2; omega)), if_neg (by unfold fits; simp; omega)]
theorem DI.isL (h : DI b first last had nx E c) (hc : c < 1000000) : isL (dOk b []) b first last nx E = true := by
  have h3 := h.f0
  have h4 := h.f1
  have h6 := h.f2
  have h7 := h.inv.pos
  have h8 := h.Ec
  obtain ⟨h1, h2, h5⟩ := h.nums
  unfold Go.Proofs.Ytgmnphckgicadaa.Pure.isL
  rw [h.ok, wrap_in (x := last - first) (by omega) (by omega), wrap_in (x := last - first + 1) (by omega) (by omega)]
  simp only [Bool.and_eq_true, decide_eq_true_eq]
  exact ⟨⟨⟨trivial, by omega⟩, by omega⟩, by omega⟩
/-- What LogAdd answers on such a disk. -/
def addT (b : List Int) (first last : Int) (nx : Nat) (E : Int) (l : List Int) : List Int × List S96 × Int × Int × Int × Int × Bool :=
  if fits first last nx l = true then (syB b (wAll first E nx l), [], first, last, (nx : Int) + nP l, E, true) else (b, [], first, last, nx, E, false)
theorem DI.addR (h : DI b first last had nx E c) (hr : l.length ≤ 4000) (hc : c < 1000000) : addR (Go.Proofs.Ytgmnphckgicadaa.Pure.isL (dOk b []) b first last nx E) (wList first last nx E l) b [] (syM b ([] ++ wList first last nx E l)) (syQ b ([] ++ wList first last nx E l)) first last nx E = addT b first last nx E l := by
  obtain ⟨h1, h2, h5⟩ := h.nums
  unfold Go.Proofs.Ytgmnphckgicadaa.Pure.addR addT
  rw [h.isL hc, if_pos rfl, h.wr hr, List.nil_append]
  by_cases hf : fits first last nx l = true
  · have hf' : first + nx + nP l ≤ last + 1 := of_decide_eq_true hf
    have hn : (wAll first E nx l).length = nP l := lwAll_len _ _ _ _ _ _ _
    have hp : nP l ≠ 0 := by unfold nP; omega
    have hd := dOk_sub h.ok (wAl_in (E := E) h.f0 h.f2 h.ok hr hf')
    rw [if_pos hf, if_pos hf, hn, if_neg hp]
    unfold syM syQ
    have hle := (nP_le hr).1
    rw [if_pos hd, if_pos hd, wrap_in (x := (nx : Int) + nP l) (by omega) (by omega)]
  · rw [if_neg hf, if_neg hf]; rfl
end
theorem same_loop (l m : List Int) (he : l.length = m.length) (hl : l.length ≤ 140737488351232) : ∀ (d i f : Nat), i + d = l.length → d < f → laws_sameBytes.l0 f l m (i : Int) = some (decide (l.drop i = m.drop i)) := by
  intro d
  induction d with
  | zero =>
    intro i f hi hf
    obtain ⟨f, rfl⟩ : ∃ m, f = m + 1 := ⟨f - 1, by omega⟩
    simp only [laws_sameBytes.l0]; rw [if_neg (by omega), List.drop_eq_nil_of_le (by omega), List.drop_eq_nil_of_le (by omega)]; simp
  | succ d ih =>
    intro i f hi hf
    obtain ⟨f, rfl⟩ : ∃ m, f = m + 1 := ⟨f - 1, by omega⟩
    simp only [laws_sameBytes.l0]
    have el : rd l (i : Int) = l.getD i 0 := by unfold rd; rw [Int.toNat_natCast]
    have em : rd m (i : Int) = m.getD i 0 := by unfold rd; rw [Int.toNat_natCast]
    rw [if_pos (by omega), if_pos (by omega), if_pos (by omega), dropAt 0 l i (by omega), dropAt 0 m i (by omega)]
    by_cases h : l.getD i 0 = m.getD i 0
    · rw [if_pos (show rd l (i : Int) = rd m (i : Int) by rw [el, em]; exact h), show wrap64 ((i : Int) + 1) = ((i + 1 : Nat) : Int) by rw [wrap_in (by omega) (by omega)]; omega, ih (i + 1) f (by omega) (by omega), h]; simp
    · rw [if_neg (show ¬ rd l (i : Int) = rd m (i : Int) by rw [el, em]; exact h), decide_eq_false (fun q => h (List.cons.inj q).1)]
theorem same_dec (l m : List Int) (hl : l.length ≤ 140737488351232) {f : Nat} (hf : l.length < f) : laws_sameBytes.f f l m = some (decide (l = m)) := by
  unfold laws_sameBytes.f
  by_cases h : l.length = m.length
  · rw [if_pos (by omega)]
    have e := same_loop l m h hl l.length 0 f (by omega) hf
    simpa using e
  · rw [if_neg (by omega), decide_eq_false (fun q => h (by rw [q]))]
theorem rec_loop (K : Nat) (hK : K ≤ 140737488351232) : ∀ (d i f : Nat) (l m : List (List Int)), l.length = m.length → (∀ x ∈ l, x.length ≤ K) → l.length ≤ 1048576 → i + d = l.length → d + K < f → laws_sameRecords.l0 f l m (i : Int) = some (decide (l.drop i = m.drop i)) := by
  intro d
  induction d with
  | zero =>
    intro i f l m he hx hl hi hf
    obtain ⟨f, rfl⟩ : ∃ m, f = m + 1 := ⟨f - 1, by omega⟩
    simp only [laws_sameRecords.l0]; rw [if_neg (by omega), List.drop_eq_nil_of_le (by omega), List.drop_eq_nil_of_le (by omega)]; simp
  | succ d ih =>
    intro i f l m he hx hl hi hf
    obtain ⟨f, rfl⟩ : ∃ m, f = m + 1 := ⟨f - 1, by omega⟩
    simp only [laws_sameRecords.l0]
    have el : rd_L2 l (i : Int) = l[i] := by unfold rd_L2; rw [Int.toNat_natCast]; simp [List.getElem?_eq_getElem (show i < l.length by omega)]
    have em : rd_L2 m (i : Int) = m[i] := by unfold rd_L2; rw [Int.toNat_natCast]; simp [List.getElem?_eq_getElem (show i < m.length by omega)]
    have hb := hx l[i] (List.getElem_mem _)
    rw [if_pos (by omega), if_pos (by omega), if_pos (by omega), el, em, same_dec _ _ (by omega) (by omega), Option.bind_some, List.drop_eq_getElem_cons (show i < l.length by omega), List.drop_eq_getElem_cons (show i < m.length by omega)]
    by_cases h : l[i] = m[i]
    · rw [if_pos (decide_eq_true h), show wrap64 ((i : Int) + 1) = ((i + 1 : Nat) : Int) by rw [wrap_in (by omega) (by omega)]; omega, ih (i + 1) f l m he hx hl (by omega) (by omega), h]; simp only [List.cons.injEq, true_and]
    · rw [if_neg (by rw [decide_eq_false h]; decide), decide_eq_false (fun q => h (List.cons.inj q).1)]
theorem mem_sum : ∀ (l : List (List Int)) (x : List Int), x ∈ l → x.length ≤ sumB l
  | [], _, h => by simp at h
  | a :: l, x, h => by
    have e : sumB (a :: l) = a.length + sumB l := by unfold sumB; simp
    rcases List.mem_cons.1 h with rfl | h
    · omega
    · have := mem_sum l x h; omega
theorem rec_dec (l m : List (List Int)) (hs : sumB l ≤ 18000) (hl : l.length ≤ 1048576) {f : Nat} (hf : l.length + 18000 < f) : laws_sameRecords.f f l m = some (decide (l = m)) := by
  unfold laws_sameRecords.f
  by_cases h : l.length = m.length
  · rw [if_pos (by omega)]
    have e := rec_loop 18000 (by omega) l.length 0 f l m h (fun x hx => by have := mem_sum l x hx; omega) hl (by omega) (by omega)
    simpa using e
  · rw [if_neg (by omega), decide_eq_false (fun q => h (by rw [q]))]
theorem bytes_loop {l : List Int} (hl : l.length ≤ 140737488351232) (n : Nat) (hn : n ≤ 1000) : ∀ (d j k : Nat) (acc : List Int) (i h : Int), St l i → j + d = n → acc.length = j → (∀ x ∈ acc, 0 ≤ x ∧ x < 256) → d < k →
    ∃ xs i' h', spec_l1Bytes.l0 k (n : Int) acc (j : Int) l i h = some (xs, i', h') ∧ xs.length = n ∧ (∀ x ∈ xs, 0 ≤ x ∧ x < 256) ∧ St l i' := by
  intro d
  induction d with
  | zero =>
    intro j k acc i h s hj ha hb hk
    obtain ⟨k, rfl⟩ : ∃ m, k = m + 1 := ⟨k - 1, by omega⟩
    rw [spec_l1Bytes.l0, if_neg (by omega)]
    exact ⟨_, _, _, rfl, by omega, hb, s⟩
  | succ d ih =>
    intro j k acc i h s hj ha hb hk
    obtain ⟨k, rfl⟩ : ∃ m, k = m + 1 := ⟨k - 1, by omega⟩
    obtain ⟨b, i1, h1, e, _, _, s1⟩ := byte_ok hl (h := h) s
    rw [spec_l1Bytes.l0, if_pos (by omega), e, Option.bind_some, if_pos (by omega), show wrap64 ((j : Int) + 1) = ((j + 1 : Nat) : Int) by rw [wrap_in (by omega) (by omega)]; omega]
    exact ih (j + 1) k _ i1 h1 s1 (by omega) (by rw [List.length_append, List.length_singleton]; omega) (fun x hx => by
      rcases List.mem_append.1 hx with h5 | h5
      · exact hb x h5
      · rw [List.mem_singleton] at h5; subst h5; dsimp only; omega) (by omega)
theorem bytes_ok {l : List Int} (hl : l.length ≤ 140737488351232) {i h : Int} (n : Nat) (hn : n ≤ 1000) (s : St l i) {k : Nat} (hk : n < k) :
    ∃ xs i' h', spec_l1Bytes.f k l i h (n : Int) = some (xs, i', h') ∧ xs.length = n ∧ (∀ x ∈ xs, 0 ≤ x ∧ x < 256) ∧ St l i' := by
  unfold spec_l1Bytes.f
  exact bytes_loop hl n hn n 0 k [] i h s (by omega) rfl (fun x hx => by cases hx) hk
/-- A record drawn: so many bytes as one of the numbers says. -/
theorem draw_bytes {l : List Int} (hl : l.length ≤ 140737488351232) {i h : Int} (xs : List Int) (h0 : 0 < xs.length) (hx : ∀ x ∈ xs, 0 ≤ x ∧ x ≤ 200) (s : St l i) {k : Nat} (hk : 300 < k) :
    ∃ v i1 h1 r i2 h2, spec_l1Int.f l i h xs = some (v, i1, h1) ∧ spec_l1Bytes.f k l i1 h1 v = some (r, i2, h2) ∧ r.length ≤ 200 ∧ (∀ x ∈ r, 0 ≤ x ∧ x < 256) ∧ St l i2 := by
  obtain ⟨v, i1, h1, e1, hv, s1⟩ := int_ok hl (h := h) xs h0 s
  have hv := hx v hv
  obtain ⟨n, rfl⟩ : ∃ n : Nat, v = (n : Int) := ⟨v.toNat, by omega⟩
  obtain ⟨r, i2, h2, e2, hr, hb, s2⟩ := bytes_ok hl (h := h1) n (by omega) s1 (k := k) (by omega)
  exact ⟨_, _, _, _, _, _, e1, e2, by omega, hb, s2⟩
section
variable {b : List Int} {first last E c : Int} {had : List (List Int)} {nx : Nat} {l : List Int}
theorem DI.make (h1 : dOk b [] = true) (h2 : ∀ x ∈ b, 0 ≤ x ∧ x < 256) (h3 : 0 ≤ first) (h4 : first ≤ last) (h5 : last < ((b.length / 64 : Nat) : Int)) (hep : ∀ s ∈ secsL b first last, s.v = true → s.e ≤ c) (hc : 0 ≤ c) :
    ∃ had nx E, DI b first last had nx E c := by
  obtain ⟨nx', _, e2⟩ := open_is (secsL b first last) (secsF_ok _ _ _)
  have hm := mostS_bound _ 0 c hc hep
  exact ⟨_, nx', _, h1, h2, h3, h4, h5, e2, hep, hc, by omega⟩
theorem DI.specAdd (h : DI b first last had nx E c) (hr : l.length ≤ 4000) (hc : c < 1000000) {k : Nat} (hk : 600 ≤ k) : spec_LogAdd.f k b [] first last nx E l = some (addT b first last nx E l) := by
  have hb := h.len
  have hw := wList_len first last nx E l
  have h64 := wList_64 first last nx E l
  rw [← h.addR hr hc]
  exact specAdd_eq first last nx E l (by omega) (by simp) (by omega) (by omega) (fun _ => hb) (specCopy_eq b [] (by omega) (by simp) (by simp) (by simp; omega)) (specOk_eq b [] (by omega) (by simp) (by simp; omega))
    (specSync_eq b _ (by omega) (by rw [List.nil_append]; omega) (fun x hx => by rw [List.nil_append] at hx; have := h64 x hx; omega) (by rw [List.nil_append]; omega))
theorem DI.implAdd (h : DI b first last had nx E c) (hr : l.length ≤ 4000) (hc : c < 1000000) {k : Nat} (hk : 600 ≤ k) : impl_LogAdd.f k b [] first last nx E l = some (addT b first last nx E l) := by
  have hb := h.len
  have hw := wList_len first last nx E l
  have h64 := wList_64 first last nx E l
  rw [← h.addR hr hc]
  exact implAdd_eq first last nx E l (by omega) (by simp) (by omega) (by omega) (implCopy_eq b [] (by omega) (by simp) (by simp) (by simp; omega)) (implOk_eq b [] (by omega) (by simp) (by simp; omega))
    (implSync_eq b _ (by omega) (by rw [List.nil_append]; omega) (fun x hx => by rw [List.nil_append] at hx; have := h64 x hx; omega) (by rw [List.nil_append]; omega))
theorem DI.wok (h : DI b first last had nx E c) (hr : l.length ≤ 4000) : dOk b (wList first last nx E l) = true := by
  rw [h.wr hr]
  by_cases hf : fits first last nx l = true
  · rw [if_pos hf]; exact dOk_sub h.ok (wAl_in (E := E) h.f0 h.f2 h.ok hr (of_decide_eq_true hf))
  · rw [if_neg hf]; exact h.ok
/-- What a crash within the adding leaves. -/
theorem DI.cut (h : DI b first last had nx E c) (hb : ∀ x ∈ l, 0 ≤ x ∧ x < 256) (hr : l.length ≤ 4000) (hc : c + 1 < 1000000) (co : List Int) :
    ∃ (had' : List (List Int)) (nx' : Nat) (E' : Int), (had' = had ∨ had' = had ++ [l]) ∧ crM b co (wList first last nx E l) = syB b (kp co 0 (wList first last nx E l)) ∧ syQ b (wList first last nx E l) = [] ∧ DI (syB b (kp co 0 (wList first last nx E l))) first last had' nx' E' (c + 1) := by
  have hd := h.wok hr
  have e1 : crM b co (wList first last nx E l) = syB b (kp co 0 (wList first last nx E l)) := by unfold crM; rw [if_pos hd]
  have e2 : syQ b (wList first last nx E l) = [] := by unfold syQ; rw [if_pos hd]
  by_cases hf : fits first last nx l = true
  · have hw : wList first last nx E l = wAll first E nx l := by rw [h.wr hr, if_pos hf]
    obtain ⟨had', nx', E', h1, h2⟩ := h.crash hb hr (of_decide_eq_true hf) hc (W := kp co 0 (wList first last nx E l)) (fun x hx => by rw [← hw]; exact kp_sub co _ 0 x hx)
    exact ⟨had', nx', E', h1, e1, e2, h2⟩
  · have hw : wList first last nx E l = [] := by rw [h.wr hr, if_neg hf]
    rw [hw]
    refine ⟨had, nx, E, .inl rfl, by rw [← hw]; rw [hw] at e1; exact hw ▸ e1, by rw [hw] at e2; exact e2, ?_⟩
    exact ⟨h.ok, h.inb, h.f0, h.f1, h.f2, h.inv, fun s hs hv => by have := h.ep s hs hv; omega, by have := h.c0; omega, by have := h.Ec; omega⟩
/-- What the log's next step leaves: a state of the drawing. -/
def DS (b : List Int) (first last : Int) (nx : Nat) (E c : Int) : Prop := ∃ had, DI b first last had nx E c
theorem DS.openS (h : DS b first last nx E c) (hc : c < 1000000) {k : Nat} (hk : 2500 ≤ k) : ∃ E' had', spec_LogOpen.f k b [] first last = some (first, last, (nx : Int), E', had', true) ∧ DS b first last nx E' c := by
  obtain ⟨had, h⟩ := h
  obtain ⟨E', h1, _, _, _, h2⟩ := h.open hc
  exact ⟨E', had, h1 k hk, had, h2⟩
theorem draw_loop {l : List Int} (hl : l.length ≤ 140737488351232) : ∀ (d k : Nat) (i h : Int) (b : List Int) (first last : Int) (nx : Nat) (E c : Int), St l i → DS b first last nx E c → c + d < 999999 → 4000 + d < k →
    ∃ b' nx' E' i' h', spec_l12Draw.l0 k (d : Int) l i h b [] first last (nx : Int) E = some (b', [], first, last, ((nx' : Nat) : Int), E', i', h') ∧ St l i' ∧ DS b' first last nx' E' (c + d) := by
  intro d
  induction d with
  | zero =>
    intro k i h b first last nx E c s hD hc hk
    obtain ⟨k, rfl⟩ : ∃ m, k = m + 1 := ⟨k - 1, by omega⟩
    rw [spec_l12Draw.l0, if_neg (by omega)]
    exact ⟨b, nx, E, i, h, rfl, s, by simpa using hD⟩
  | succ d ih =>
    intro k i h b first last nx E c s hD hc hk
    obtain ⟨k, rfl⟩ : ∃ m, k = m + 1 := ⟨k - 1, by omega⟩
    obtain ⟨had, hD⟩ := hD
    obtain ⟨v, i1, h1, r, i2, h2, e1, e2, hr, hrb, s2⟩ := draw_bytes hl (h := h) ([0, 1, 44, 45, 90, 130] : List Int) (by decide) (by decide) s (k := k) (by omega)
    obtain ⟨o, i3, h3, e3, s3⟩ := once_ok hl (h := h2) 3 s2
    have hb := hD.len
    have hc0 := hD.c0
    rw [spec_l12Draw.l0, if_pos (by omega), e1, Option.bind_some]
    simp only []
    rw [e2, Option.bind_some]
    simp only []
    rw [e3, Option.bind_some, show wrap64 (((d + 1 : Nat) : Int) - 1) = (d : Int) by rw [wrap_in (by omega) (by omega)]; omega]
    simp only []
    cases o
    · rw [if_neg (by decide), hD.specAdd (l := r) (by omega) (by omega) (by omega), Option.bind_some]
      unfold addT
      by_cases hf : fits first last nx r = true
      · rw [if_pos hf]
        have hD2 := hD.add hrb (by omega) (of_decide_eq_true hf) (by omega)
        have := ih k i3 h3 _ first last (nx + nP r) E (c + 1) s3 ⟨_, hD2⟩ (by omega) (by omega)
        simp only []
        rw [show c + 1 + (d : Int) = c + ((d + 1 : Nat) : Int) by omega, show (((nx + nP r : Nat)) : Int) = (nx : Int) + nP r by omega] at this
        exact this
      · rw [if_neg hf]
        have hD2 : DS b first last nx E (c + 1) := ⟨had, hD.ok, hD.inb, hD.f0, hD.f1, hD.f2, hD.inv, fun s hs hv => by have := hD.ep s hs hv; omega, by have := hD.c0; omega, by have := hD.Ec; omega⟩
        have := ih k i3 h3 b first last nx E (c + 1) s3 hD2 (by omega) (by omega)
        simp only []
        rw [show c + 1 + (d : Int) = c + ((d + 1 : Nat) : Int) by omega] at this
        exact this
    · rw [if_pos rfl, specWr_eq first last nx E r (by omega) (by omega), Option.bind_some, if_pos (isL_fine (fun _ => hb) (hD.isL (by omega))), specCopy_eq b [] (by omega) (by simp) (by simp) (by simp; omega), Option.bind_some]
      have hw := wList_len first last nx E r
      have h64 := wList_64 first last nx E r
      simp only []
      rw [if_pos (show ([] : List S96).length + (wList first last nx E r).length < 4398046511104 by rw [List.length_nil]; omega), List.nil_append]
      obtain ⟨co, i4, h4, e4, _, _, s4⟩ := bytes_ok hl (h := h3) 1 (by omega) s3 (k := k) (by omega)
      have e4 : spec_l1Bytes.f k l i3 h3 1 = some (co, i4, h4) := e4
      rw [e4, Option.bind_some]
      simp only []
      obtain ⟨had', nx', E', _, c1, c2, hD2⟩ := hD.cut hrb (by omega) (by omega) co
      rw [specCrash_eq b _ co (by omega) (by omega) (fun x hx => by have := h64 x hx; omega) (by omega), Option.bind_some, c1, c2]
      simp only []
      obtain ⟨E2, h2', e5, hD3⟩ := DS.openS ⟨_, hD2⟩ (by omega) (k := k) (by omega)
      rw [e5, Option.bind_some]
      have := ih k i4 h4 _ first last nx' E2 (c + 1) s4 hD3 (by omega) (by omega)
      simp only []
      rw [show c + 1 + (d : Int) = c + ((d + 1 : Nat) : Int) by omega] at this
      exact this
end
theorem zero_sec (b : List Int) (a : Int) (hb : ∀ x ∈ b, x = 0) : (toSc (readM b [] a)).v = false := by
  have hz : ∀ x ∈ readM b [] a, x = 0 := by
    intro x hx
    unfold readM at hx
    split at hx
    · exact hb x (List.mem_of_mem_take (List.mem_of_mem_drop hx))
    · cases hx
  have hr : ∀ i : Int, rd (readM b [] a) i = 0 := by
    intro i
    unfold rd
    rw [List.getD_eq_getElem?_getD]
    cases h : (readM b [] a)[i.toNat]? with
    | none => rfl
    | some x => exact hz x (List.mem_of_getElem? h)
  show secIs (readM b [] a) = false
  have h0 : getL (readM b [] a) 0 = 0 := by unfold getL; rw [hr, hr, hr, hr]; rfl
  unfold secIs
  rw [h0]; rfl
theorem zero_secs (S : Int → List Int) (h : ∀ a, (toSc (S a)).v = false) : ∀ (d : Nat) (a : Int), ∀ s ∈ secsF S a d, s.v = false
  | 0, _, s, hs => by simp [secsF] at hs
  | d + 1, a, s, hs => by
    rcases List.mem_cons.1 hs with rfl | hs
    · exact h a
    · exact zero_secs S h d (a + 1) s hs
/-- What is drawn. -/
theorem drawn {l : List Int} (hl : l.length ≤ 140737488351232) {k : Nat} (hk : l.length + 6000 < k) :
    ∃ b first last nx E rec co, spec_DrawLogged.f k l = some (b, [], first, last, ((nx : Nat) : Int), E, rec, co) ∧ DS b first last nx E 10 ∧ rec.length ≤ 200 ∧ (∀ x ∈ rec, 0 ≤ x ∧ x < 256) := by
  obtain ⟨h0, e0⟩ := new_ok l hl (k := k) (by omega)
  obtain ⟨x, i1, h1, e1, s1, x0, x1, _⟩ := below_ok hl (h := h0) (n := 20) (st0 l)
  obtain ⟨y, i2, h2, e2, s2, y0, y1, _⟩ := below_ok hl (h := h1) (n := 3) s1
  obtain ⟨z, i3, h3, e3, s3, z0, z1, _⟩ := below_ok hl (h := h2) (n := 2) s2
  obtain ⟨n, i4, h4, e4, s4, n0, n1, _⟩ := below_ok hl (h := h3) (n := 8) s3
  have x1 := x1 (by decide)
  have y1 := y1 (by decide)
  have z1 := z1 (by decide)
  have n1 := n1 (by decide)
  obtain ⟨b, hb⟩ : ∃ b : List Int, b = List.replicate (wrap64 (wrap64 (6 + x) * 64)).toNat 0 := ⟨_, rfl⟩
  have w1 : wrap64 (wrap64 (6 + x) * 64) = (6 + x) * 64 := by rw [wrap_in (x := 6 + x) (by omega) (by omega), wrap_in (by omega) (by omega)]
  have hbl : b.length = 64 * (6 + x).toNat := by rw [hb, w1, List.length_replicate]; omega
  have hb0 : ∀ y ∈ b, y = 0 := fun y hy => by rw [hb] at hy; exact (List.mem_replicate.1 hy).2
  have eN : spec_DiskNew.f (wrap64 (6 + x)) = some (b, []) := by
    unfold spec_DiskNew.f
    rw [spec_l1In_eq, Option.bind_some, wrap_in (x := 6 + x) (by omega) (by omega), show (decide (1 ≤ 6 + x) && decide (6 + x ≤ 400)) = true by rw [Bool.and_eq_true, decide_eq_true_eq, decide_eq_true_eq]; omega, if_pos rfl, hb, w1, wrap_in (x := (6 + x) * 64) (by omega) (by omega), if_pos (by omega), if_pos (by omega)]
  have eM : spec_l11Many.f b [] = some (6 + x) := by unfold spec_l11Many.f; rw [wrap_in (by omega) (by omega)]; congr 1; omega
  have eL : wrap64 (wrap64 (6 + x - 1) - z) = 5 + x - z := by rw [wrap_in (x := 6 + x - 1) (by omega) (by omega), wrap_in (by omega) (by omega)]; omega
  have hdk : dOk b [] = true := by unfold dOk; rw [decide_eq_true ⟨by omega, by omega, by omega⟩]; rfl
  obtain ⟨had, nx, E, hD⟩ := DI.make (c := 0) (first := y) (last := 5 + x - z) hdk (fun v hv => by rw [hb0 v hv]; decide) y0 (by omega) (by omega)
    (fun s hs hv => by rw [zero_secs _ (fun a => zero_sec b a hb0) _ _ s hs] at hv; cases hv) (Int.le_refl 0)
  obtain ⟨E1, had1, e5, hD1⟩ := DS.openS ⟨_, hD⟩ (by omega) (k := k) (by omega)
  obtain ⟨d, rfl⟩ : ∃ d : Nat, n = (d : Int) := ⟨n.toNat, by omega⟩
  obtain ⟨b2, nx2, E2, i6, h6, e6, s6, hD2⟩ := draw_loop hl d k i4 h4 b y (5 + x - z) nx E1 0 s4 hD1 (by omega) (by omega)
  obtain ⟨v, i7, h7, r, i8, h8, e7, e8, hr, hrb, s8⟩ := draw_bytes hl (h := h6) ([0, 1, 44, 45, 90, 200] : List Int) (by decide) (by decide) s6 (k := k) (by omega)
  obtain ⟨co, i9, h9, e9, _, _, s9⟩ := bytes_ok hl (h := h8) 1 (by omega) s8 (k := k) (by omega)
  have e9 : spec_l1Bytes.f k l i8 h8 1 = some (co, i9, h9) := e9
  refine ⟨b2, y, 5 + x - z, nx2, E2, r, co, ?_, ?_, hr, hrb⟩
  · unfold spec_DrawLogged.f spec_l12Draw.f
    rw [e0, Option.bind_some]
    simp only []
    rw [e1, Option.bind_some]
    simp only []
    rw [eN, Option.bind_some, e2, Option.bind_some]
    simp only []
    rw [eM, Option.bind_some, e3, Option.bind_some]
    simp only []
    rw [eL, e5, Option.bind_some]
    simp only []
    rw [e4, Option.bind_some]
    simp only []
    rw [e6, Option.bind_some]
    simp only []
    rw [e7, Option.bind_some]
    simp only []
    rw [e8, Option.bind_some]
    simp only []
    rw [e9, Option.bind_some]
  · obtain ⟨had2, q⟩ := hD2
    exact ⟨had2, q.ok, q.inb, q.f0, q.f1, q.f2, q.inv, fun s hs hv => by have := q.ep s hs hv; omega, by decide, by have := q.Ec; omega⟩
theorem DI.implOpen {b : List Int} {first last : Int} {had : List (List Int)} {nx : Nat} {E c : Int} (h : DI b first last had nx E c) (hc : c < 1000000) : had.length ≤ 400 ∧ sumB had ≤ 17600 ∧ ∃ E', (∀ k, 2500 ≤ k → impl_LogOpen.f k b [] first last = some (first, last, (nx : Int), E', had, true)) ∧ DI b first last had nx E' c := by
  obtain ⟨E', _, h1, h2, h3, h4⟩ := h.open hc
  exact ⟨h2, h3, E', h1, h4⟩
theorem ne_more (l : List (List Int)) (x : List Int) : l ++ [x] ≠ l := fun h => by have := congrArg List.length h; rw [List.length_append, List.length_singleton] at this; omega
/-- What is added then. -/
theorem after_ok {b : List Int} {first last : Int} {had : List (List Int)} {nx : Nat} {E c x2 x3 : Int} (h : DI b first last had nx E c) (hc : c + 1 < 1000000) {k : Nat} (hk : 30000 ≤ k) : laws_FnLog.j0 (k + 1) had false first last x2 x3 b [] first last (nx : Int) E = some true := by
  have hr7 : ∀ x ∈ ([7, 7] : List Int), 0 ≤ x ∧ x < 256 := by decide
  have hn7 : nP ([7, 7] : List Int) = 1 := by decide
  rw [laws_FnLog.j0, if_neg (by decide), h.implAdd (l := [7, 7]) (by decide) (by omega) (by omega), Option.bind_some]
  unfold addT
  by_cases hf : fits first last nx [7, 7] = true
  · rw [if_pos hf]
    simp only []
    have hD2 := h.add hr7 (by decide) (of_decide_eq_true hf) (by omega)
    obtain ⟨q1, q2, E', q3, _⟩ := hD2.implOpen (by omega)
    rw [if_pos trivial, q3 k (by omega), Option.bind_some, Option.bind_some]
    rw [List.length_append, List.length_singleton] at q1
    rw [if_pos (show ([] : List (List Int)).length + had.length < 5864062014805 by rw [List.length_nil]; omega), Option.bind_some, List.nil_append, if_pos (by omega)]
    simp only []
    rw [rec_dec _ _ (by omega) (by rw [List.length_append, List.length_singleton]; omega) (by rw [List.length_append, List.length_singleton]; omega), Option.bind_some, decide_eq_true rfl]
  · rw [if_neg hf]
    simp only []
    rw [if_neg (by decide)]
    have hx : ¬ (first + nx + nP [7, 7] ≤ last + 1) := fun q => hf (decide_eq_true q)
    rw [hn7] at hx
    obtain ⟨g1, g2, g3⟩ := h.nums
    have g4 := h.f0
    have e : impl_LogRoom.f first last nx E = some 0 := by
      rw [implRoom_eq, h.room]; congr 1; omega
    rw [e]; rfl
theorem FnLog : laws_FnLog.Pure := by
  intro l0 hm hl hw
  by_cases hbig : (l0.length : Int) > 1048576
  · refine ⟨1, ?_⟩
    unfold laws_FnLog.f laws_big.f
    rw [Option.bind_some, if_pos (decide_eq_true hbig)]
  refine ⟨l0.length + 60001, ?_⟩
  obtain ⟨b, first, last, nx, E, r, co, e1, ⟨had, hD⟩, hr, hrb⟩ := drawn (l := l0) (by omega) (k := l0.length + 60001) (by omega)
  obtain ⟨o1, o2, E', o3, _⟩ := hD.implOpen (by omega)
  have hb := hD.len
  unfold laws_FnLog.f laws_big.f
  rw [Option.bind_some, if_neg (by rw [decide_eq_false hbig]; decide), e1, Option.bind_some]
  dsimp only
  rw [o3 _ (by omega), Option.bind_some, Option.bind_some]
  dsimp only
  rw [if_pos (show ([] : List (List Int)).length + had.length < 5864062014805 by rw [List.length_nil]; omega), Option.bind_some, List.nil_append, if_pos (by omega), Option.bind_some, hD.implAdd (l := r) (by omega) (by omega) (by omega), Option.bind_some, if_pos rfl]
  unfold addT
  by_cases hf : fits first last nx r = true
  · rw [if_pos hf]
    dsimp only
    have hD2 := hD.add hrb (by omega) (of_decide_eq_true hf) (by omega)
    obtain ⟨p1, p2, E2, p3, _⟩ := hD2.implOpen (by omega)
    have hw2 := wList_len first last nx E r
    have h64 := wList_64 first last nx E r
    obtain ⟨had', nx', E3, hh, c1, c2, hD3⟩ := hD.cut hrb (by omega) (by omega) co
    obtain ⟨q1, q2, E4, q3, hD4⟩ := hD3.implOpen (by omega)
    rw [if_pos rfl, p3 _ (by omega), Option.bind_some, Option.bind_some]
    dsimp only
    rw [if_pos (show ([] : List Int).length + b.length < 140737488355328 by rw [List.length_nil]; omega), List.nil_append, implWr_eq first last nx E r (by omega) (by omega), Option.bind_some, implCrash_eq b _ co (by omega) (by omega) (fun x hx => by have := h64 x hx; omega) (by omega), Option.bind_some, c1, c2]
    dsimp only
    rw [q3 _ (by omega), Option.bind_some]
    dsimp only
    rw [if_pos rfl, rec_dec _ _ (by omega) (by omega) (by omega), Option.bind_some, if_pos (decide_eq_true rfl), rec_dec had' had (by omega) (by omega) (by omega), Option.bind_some]
    have hend : laws_FnLog.j0 (l0.length + 60001) had' false first last nx E (syB b (kp co 0 (wList first last nx E r))) [] first last (nx' : Int) E4 = some true := after_ok hD4 (by omega) (by omega)
    rcases hh with rfl | rfl
    · rw [if_pos (decide_eq_true rfl)]; exact hend
    · rw [if_neg (by rw [decide_eq_false (ne_more had r)]; decide), rec_dec _ _ (by omega) (by omega) (by omega), Option.bind_some, decide_eq_true rfl]; exact hend
  · rw [if_neg hf]
    dsimp only
    rw [if_neg (by decide)]
    have hx : ¬ (first + nx + nP r ≤ last + 1) := fun q => hf (decide_eq_true q)
    obtain ⟨g1, g2, g3⟩ := hD.nums
    have g4 := hD.f0
    have hn : nP r ≤ r.length / 44 + 1 := by unfold nP; omega
    rw [implRoom_eq, hD.room, Option.bind_some, wrap_in (x := ((r.length : Int) / 44)) (by omega) (by omega), wrap_in (by omega) (by omega), if_pos (by omega)]
    simp

end Go.Proofs.Ytgmnphckgicadaa.Pure

