/- The functions that the law FnFloats reaches, each with what it computes and its contract. -/
import Derived.Test.YtffcohllkoefeaaQFnFloatsx0
import Derived.Test.YtffcohllkoefeaaQFnFloatsx1
namespace Go.Proofs.Ytffcohllkoefeaa.PFnFloats
open Go.RowKit Go.Proofs.YtffcohllkoefeaaW.PrintWords Go.Proofs.YtffcohllkoefeaaW.PrintLast Go.Proofs.YtffcohllkoefeaaW.PrintMore
attribute [local go_sem] max2_int min2_int max_two min_two max_three min_three max_four min_four   -- for this text's walks alone
set_option linter.unusedVariables false
set_option linter.unusedSimpArgs false

/-! ### impl_FloatOf: function 16 -/
def impl_FloatOf.j0 : Nat → Int → Bool → Option (Int)
  | 0, _, _ => none
  | k + 1, x0, x13 => if x13 = true then (some 0) else (if x0 < 0 then ((bits_Len64.f k (IntKind.u64.wrap (wrap64 (-x0)))).bind fun t102 => (if 0 ≤ (IntKind.u64.wrap (wrap64 (63 - (wrap64 (t102 - 1))))) then (some (wrap64 (Go.bits .or .u64 (Go.bits .or .u64 9223372036854775808 (IntKind.u64.wrap ((IntKind.u64.wrap (wrap64 (1023 + (wrap64 (t102 - 1))))) * 4503599627370496))) ((IntKind.u64.wrap ((shl .u64 (IntKind.u64.wrap (wrap64 (-x0))) (IntKind.u64.wrap (wrap64 (63 - (wrap64 (t102 - 1)))))) * 2)) / 4096)))) else (none))) else ((bits_Len64.f k (IntKind.u64.wrap (x0))).bind fun t103 => (if 0 ≤ (IntKind.u64.wrap (wrap64 (63 - (wrap64 (t103 - 1))))) then (some (wrap64 (Go.bits .or .u64 (Go.bits .or .u64 0 (IntKind.u64.wrap ((IntKind.u64.wrap (wrap64 (1023 + (wrap64 (t103 - 1))))) * 4503599627370496))) ((IntKind.u64.wrap ((shl .u64 (IntKind.u64.wrap (x0)) (IntKind.u64.wrap (wrap64 (63 - (wrap64 (t103 - 1)))))) * 2)) / 4096)))) else (none))))
def impl_FloatOf.f (k : Nat) (a0 : Int) : Option (Int) := if a0 = 0 then (impl_FloatOf.j0 k a0 true) else ((impl_inRange.f a0 (-9007199254740992) 9007199254740992).bind fun t101 => (impl_FloatOf.j0 k a0 (!t101)))
theorem impl_FloatOf.mono_l : ∀ k, (∀ y0 y1, LeO (impl_FloatOf.j0 k y0 y1) (impl_FloatOf.j0 (k + 1) y0 y1))
  | 0 => fun _ _ r h => by simp [impl_FloatOf.j0] at h
  | k + 1 => by
    have ih0 := impl_FloatOf.mono_l k
    · intro y0 y1
      unfold impl_FloatOf.j0
      repeat' first
      | (with_reducible exact ih0 _ _)
      | (with_reducible exact bits_Len64.mono _ _)
      | (with_reducible exact LeO.refl _)
      | (with_reducible exact LeO.none _)
      | (with_reducible refine LeO.ite ?_ ?_)
      | (with_reducible refine LeO.bind ?_ (fun _ => ?_))
      | exact ih0 _ _
      | exact bits_Len64.mono _ _
      | exact LeO.none _
      | refine LeO.ite ?_ ?_
      | refine LeO.bind ?_ (fun _ => ?_)
theorem impl_FloatOf.mono : ∀ a0 k, LeO (impl_FloatOf.f k a0) (impl_FloatOf.f (k + 1) a0) := by
  intro a0 k
  have ih0 := impl_FloatOf.mono_l k
  unfold impl_FloatOf.f
  repeat' first
      | (with_reducible exact ih0 _ _)
      | (with_reducible exact bits_Len64.mono _ _)
      | (with_reducible exact LeO.refl _)
      | (with_reducible exact LeO.none _)
      | (with_reducible refine LeO.ite ?_ ?_)
      | (with_reducible refine LeO.bind ?_ (fun _ => ?_))
      | exact ih0 _ _
      | exact bits_Len64.mono _ _
      | exact LeO.none _
      | refine LeO.ite ?_ ?_
      | refine LeO.bind ?_ (fun _ => ?_)
set_option maxHeartbeats 8000000 in
set_option maxRecDepth 100000 in
theorem impl_FloatOf.calls (k : Nat) (a0 : Int) (r : Int) (w : World) (h : impl_FloatOf.f k a0 = some r) :
    Calls Try.prog 16 #[.int .i64 a0] w fun e w' => e = .returned (.int .i64 r) ∧ Drawn0 w w' := by
  have H : (if a0 = 0 then (impl_FloatOf.j0 k a0 true) else ((impl_inRange.f a0 (-9007199254740992) 9007199254740992).bind fun t101 => (impl_FloatOf.j0 k a0 (!t101)))) = some r := h
  clear h
  have HC2 := Aside0.mk H
  clear H
  go_enter Try.func16, Try.ntmps16
  go_upto_region 1 with (fail)
  go_cut [13] (fun v13 wc => ∃ (kq : Nat) (x13_1 : Bool), v13 = .bool x13_1 ∧ Aside0 (impl_FloatOf.j0 kq a0 x13_1 = some r) ∧ Aside0 (kq ≤ k) ∧ Drawn0 w wc)
  case first =>
    have H := HC2.out
    clear HC2
    by_cases c3 : a0 = 0
    · rw [if_pos c3] at H
      have c3b0 : (a0 == 0) = true := beq_iff_eq.mpr c3
      have c3b1 : (a0 != 0) = false := bne_eq_false_iff_eq.mpr c3
      clear c3
      (first | rw [c3b0] | (simp only [i64_w, i32_w]; rw [c3b0]) | skip)
      have H' := Aside0.mk H
      clear H
      go_wp2
      go_meet
      case rel => exact ⟨_, (true), (by first | rfl | (simp; done) | (simp [*]; done)), H', ⟨by first | omega | exact Nat.le_refl _⟩, by repeat (first | exact Drawn0.refl _ | apply Drawn0.step)⟩
    · rw [if_neg c3] at H
      have c3b0 : (a0 == 0) = false := beq_eq_false_iff_ne.mpr c3
      have c3b1 : (a0 != 0) = true := bne_iff_ne.mpr c3
      (first | rw [c3b0] | (simp only [i64_w, i32_w]; rw [c3b0]) | skip)
      replace H := Option.bind_eq_some_iff.mp H
      obtain ⟨t101, A40, H⟩ := H
      replace H : (impl_FloatOf.j0 k a0 (!t101)) = some r := H
      have A4 := Aside0.mk A40
      clear A40
      have H' := Aside0.mk H
      clear H
      go_wp2_with (first | (go_at_call 51; (with_reducible refine (impl_inRange.calls a0 (-9007199254740992) 9007199254740992 t101 _ A4.out).mono ?_); rintro e w' ⟨rfl, ⟨nd, rfl⟩⟩))
      go_meet
      case rel => exact ⟨_, (!t101), (by first | rfl | (simp; done) | (simp [*]; done)), H', ⟨by first | omega | exact Nat.le_refl _⟩, by repeat (first | exact Drawn0.refl _ | apply Drawn0.step)⟩
  case rest =>
    clear HC2
    try clear c1
    try clear p2
    try clear c3
    try clear c3b0
    try clear c3b1
    obtain ⟨kq, x13_1, rfl, HA, HJ1, ⟨mc1, rfl⟩⟩ := hcut
    cases kq with
    | zero => exact absurd HA.out (by simp [impl_FloatOf.j0])
    | succ kj1 =>
      have H := HA.out
      clear HA
      simp only [impl_FloatOf.j0] at H
      by_cases c5 : x13_1 = true
      · subst c5
        have H1 : (some 0) = some r := by rw [if_pos rfl] at H; exact H
        clear H
        have H := H1
        clear H1
        obtain rfl := Option.some.inj H
        go_wp2
        go_ret
        exact ⟨by first | rfl | (simp; done) | (simp [*]; done), by repeat (first | exact Drawn0.refl _ | apply Drawn0.step)⟩
      · replace c5 := Bool.eq_false_iff.mpr c5
        subst c5
        have H1 : (if a0 < 0 then ((bits_Len64.f kj1 (IntKind.u64.wrap (wrap64 (-a0)))).bind fun t102 => (if 0 ≤ (IntKind.u64.wrap (wrap64 (63 - (wrap64 (t102 - 1))))) then (some (wrap64 (Go.bits .or .u64 (Go.bits .or .u64 9223372036854775808 (IntKind.u64.wrap ((IntKind.u64.wrap (wrap64 (1023 + (wrap64 (t102 - 1))))) * 4503599627370496))) ((IntKind.u64.wrap ((shl .u64 (IntKind.u64.wrap (wrap64 (-a0))) (IntKind.u64.wrap (wrap64 (63 - (wrap64 (t102 - 1)))))) * 2)) / 4096)))) else (none))) else ((bits_Len64.f kj1 (IntKind.u64.wrap (a0))).bind fun t103 => (if 0 ≤ (IntKind.u64.wrap (wrap64 (63 - (wrap64 (t103 - 1))))) then (some (wrap64 (Go.bits .or .u64 (Go.bits .or .u64 0 (IntKind.u64.wrap ((IntKind.u64.wrap (wrap64 (1023 + (wrap64 (t103 - 1))))) * 4503599627370496))) ((IntKind.u64.wrap ((shl .u64 (IntKind.u64.wrap (a0)) (IntKind.u64.wrap (wrap64 (63 - (wrap64 (t103 - 1)))))) * 2)) / 4096)))) else (none)))) = some r := by rw [if_neg (show ¬ (false = true) by decide)] at H; exact H
        clear H
        have H := H1
        clear H1
        by_cases c6 : a0 < 0
        · rw [if_pos c6] at H
          have c6b0 : decide (a0 < 0) = true := decide_eq_true c6
          clear c6
          replace H := Option.bind_eq_some_iff.mp H
          obtain ⟨t102, A70, H⟩ := H
          replace H : (if 0 ≤ (IntKind.u64.wrap (wrap64 (63 - (wrap64 (t102 - 1))))) then (some (wrap64 (Go.bits .or .u64 (Go.bits .or .u64 9223372036854775808 (IntKind.u64.wrap ((IntKind.u64.wrap (wrap64 (1023 + (wrap64 (t102 - 1))))) * 4503599627370496))) ((IntKind.u64.wrap ((shl .u64 (IntKind.u64.wrap (wrap64 (-a0))) (IntKind.u64.wrap (wrap64 (63 - (wrap64 (t102 - 1)))))) * 2)) / 4096)))) else (none)) = some r := H
          have A7 := Aside0.mk A70
          clear A70
          obtain ⟨ji8, hji8⟩ : ∃ j_ : Int, (IntKind.u64.wrap (wrap64 (63 - (wrap64 (t102 - 1))))) = j_ := ⟨_, rfl⟩
          replace H : (if 0 ≤ (ji8) then (some (wrap64 (Go.bits .or .u64 (Go.bits .or .u64 9223372036854775808 (IntKind.u64.wrap ((IntKind.u64.wrap (wrap64 (1023 + (wrap64 (t102 - 1))))) * 4503599627370496))) ((IntKind.u64.wrap ((shl .u64 (IntKind.u64.wrap (wrap64 (-a0))) (ji8)) * 2)) / 4096)))) else (none)) = some r := by first | (rw [hji8] at H; exact H) | (simp only [hji8] at H ⊢; exact H)
          (try rw [hji8] at A7)
          by_cases c9 : 0 ≤ (ji8)
          · rw [if_pos c9] at H
            have c9b0 := eq_true c9
            have c9b1 : decide (0 ≤ (ji8)) = true := decide_eq_true c9
            clear c9
            obtain ⟨ji10, hji10⟩ : ∃ j_ : Int, (shl .u64 (IntKind.u64.wrap (wrap64 (-a0))) (ji8)) = j_ := ⟨_, rfl⟩
            replace H : (some (wrap64 (Go.bits .or .u64 (Go.bits .or .u64 9223372036854775808 (IntKind.u64.wrap ((IntKind.u64.wrap (wrap64 (1023 + (wrap64 (t102 - 1))))) * 4503599627370496))) ((IntKind.u64.wrap ((ji10) * 2)) / 4096)))) = some r := by first | (rw [hji10] at H; exact H) | (simp only [hji10] at H ⊢; exact H)
            (try rw [hji10] at A7)
            have hji10_ : (IntKind.u64.wrap ((IntKind.u64.wrap (wrap64 (-a0))) * 2 ^ min (ji8).toNat 64)) = ji10 := hji10
            have hji10z : (ji8) ≤ 64 → (IntKind.u64.wrap ((IntKind.u64.wrap (wrap64 (-a0))) * 2 ^ (ji8).toNat)) = ji10 := shl_small hji10
            obtain rfl := Option.some.inj H
            go_wp2_with (first | ((with_reducible refine gate_callee (f := 52) rfl ?_); refine goesL_ (some 22) rfl rfl Try.func52 (by kernel_rfl) rfl #[.int .u64 (IntKind.u64.wrap (wrap64 (-a0)))] rfl (by (try simp only [List.map_toArray, List.map_cons, List.map_nil]); first | done | rfl | (simp only [List.length_drop, List.length_take]; rfl)) ?_; (with_reducible refine (bits_Len64.calls kj1 (IntKind.u64.wrap (wrap64 (-a0))) t102 _ A7.out).mono ?_); rintro e w' ⟨rfl, ⟨nd, rfl⟩⟩; refine ⟨_, rfl, ?_⟩))
            go_ret
            exact ⟨by first | rfl | (simp; done) | (simp only [← hji8, ← hji10] <;> (first | rfl | simp)) | (simp [*]; done), by repeat (first | exact Drawn0.refl _ | apply Drawn0.step)⟩
          · rw [if_neg c9] at H
            exact absurd H (by simp)
        · rw [if_neg c6] at H
          have c6b0 : decide (a0 < 0) = false := decide_eq_false c6
          clear c6
          replace H := Option.bind_eq_some_iff.mp H
          obtain ⟨t103, A110, H⟩ := H
          replace H : (if 0 ≤ (IntKind.u64.wrap (wrap64 (63 - (wrap64 (t103 - 1))))) then (some (wrap64 (Go.bits .or .u64 (Go.bits .or .u64 0 (IntKind.u64.wrap ((IntKind.u64.wrap (wrap64 (1023 + (wrap64 (t103 - 1))))) * 4503599627370496))) ((IntKind.u64.wrap ((shl .u64 (IntKind.u64.wrap (a0)) (IntKind.u64.wrap (wrap64 (63 - (wrap64 (t103 - 1)))))) * 2)) / 4096)))) else (none)) = some r := H
          have A11 := Aside0.mk A110
          clear A110
          obtain ⟨ji12, hji12⟩ : ∃ j_ : Int, (IntKind.u64.wrap (wrap64 (63 - (wrap64 (t103 - 1))))) = j_ := ⟨_, rfl⟩
          replace H : (if 0 ≤ (ji12) then (some (wrap64 (Go.bits .or .u64 (Go.bits .or .u64 0 (IntKind.u64.wrap ((IntKind.u64.wrap (wrap64 (1023 + (wrap64 (t103 - 1))))) * 4503599627370496))) ((IntKind.u64.wrap ((shl .u64 (IntKind.u64.wrap (a0)) (ji12)) * 2)) / 4096)))) else (none)) = some r := by first | (rw [hji12] at H; exact H) | (simp only [hji12] at H ⊢; exact H)
          (try rw [hji12] at A11)
          by_cases c13 : 0 ≤ (ji12)
          · rw [if_pos c13] at H
            have c13b0 := eq_true c13
            have c13b1 : decide (0 ≤ (ji12)) = true := decide_eq_true c13
            clear c13
            obtain ⟨ji14, hji14⟩ : ∃ j_ : Int, (shl .u64 (IntKind.u64.wrap (a0)) (ji12)) = j_ := ⟨_, rfl⟩
            replace H : (some (wrap64 (Go.bits .or .u64 (Go.bits .or .u64 0 (IntKind.u64.wrap ((IntKind.u64.wrap (wrap64 (1023 + (wrap64 (t103 - 1))))) * 4503599627370496))) ((IntKind.u64.wrap ((ji14) * 2)) / 4096)))) = some r := by first | (rw [hji14] at H; exact H) | (simp only [hji14] at H ⊢; exact H)
            (try rw [hji14] at A11)
            have hji14_ : (IntKind.u64.wrap ((IntKind.u64.wrap (a0)) * 2 ^ min (ji12).toNat 64)) = ji14 := hji14
            have hji14z : (ji12) ≤ 64 → (IntKind.u64.wrap ((IntKind.u64.wrap (a0)) * 2 ^ (ji12).toNat)) = ji14 := shl_small hji14
            obtain rfl := Option.some.inj H
            go_wp2_with (first | ((with_reducible refine gate_callee (f := 52) rfl ?_); refine goesL_ (some 22) rfl rfl Try.func52 (by kernel_rfl) rfl #[.int .u64 (IntKind.u64.wrap (a0))] rfl (by (try simp only [List.map_toArray, List.map_cons, List.map_nil]); first | done | rfl | (simp only [List.length_drop, List.length_take]; rfl)) ?_; (with_reducible refine (bits_Len64.calls kj1 (IntKind.u64.wrap (a0)) t103 _ A11.out).mono ?_); rintro e w' ⟨rfl, ⟨nd, rfl⟩⟩; refine ⟨_, rfl, ?_⟩))
            go_ret
            exact ⟨by first | rfl | (simp; done) | (simp only [← hji12, ← hji14] <;> (first | rfl | simp)) | (simp [*]; done), by repeat (first | exact Drawn0.refl _ | apply Drawn0.step)⟩
          · rw [if_neg c13] at H
            exact absurd H (by simp)

/-! ### laws_big: function 35 -/
def laws_big.f (l0 : List Int) : Option (Bool) := some (decide ((l0.length : Int) > 1048576))
set_option maxHeartbeats 8000000 in
set_option maxRecDepth 100000 in
theorem laws_big.calls (A0 : Option Addr) (c0 : Nat) (l0 : List Int) (r : Bool) (w : World) (hr0 : Kd.C (Kd.int .u8) w A0 l0.length l0) (hc0 : l0.length ≤ c0) (h : laws_big.f l0 = some r) :
    Calls Try.prog 35 #[.slice A0 l0.length c0] w fun e w' => e = .returned (.bool r) ∧ Drawn0 w w' := by
  have HR0 := Aside0.mk hr0
  have HC0 := Aside0.mk hc0
  clear hr0 hc0
  have H : (some (decide ((l0.length : Int) > 1048576))) = some r := h
  clear h
  obtain rfl := Option.some.inj H
  go_enter Try.func35, Try.ntmps35
  go_wp2
  go_ret
  exact ⟨by first | rfl | (simp; done) | (simp [*]; done), by repeat (first | exact Drawn0.refl _ | apply Drawn0.step)⟩

end Go.Proofs.Ytffcohllkoefeaa.PFnFloats
