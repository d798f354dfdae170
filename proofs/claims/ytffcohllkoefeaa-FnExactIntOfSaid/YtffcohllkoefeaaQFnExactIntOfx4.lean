/- The functions that the law FnExactIntOf reaches, each with what it computes and its contract. -/
import Derived.Test.YtffcohllkoefeaaQFnExactIntOfx0
import Derived.Test.YtffcohllkoefeaaQFnExactIntOfx3
namespace Go.Proofs.Ytffcohllkoefeaa.PFnExactIntOf
open Go.RowKit Go.Proofs.YtffcohllkoefeaaW.PrintWords Go.Proofs.YtffcohllkoefeaaW.PrintLast Go.Proofs.YtffcohllkoefeaaW.PrintMore
attribute [local go_sem] max2_int min2_int max_two min_two max_three min_three max_four min_four   -- for this text's walks alone
set_option linter.unusedVariables false
set_option linter.unusedSimpArgs false

/-! ### spec_FloatOf: function 15 -/
mutual
def spec_FloatOf.j0 : Nat → Int → Bool → Option (Int)
  | 0, _, _ => none
  | k + 1, x0, x13 => if x13 = true then (some 0) else (if x0 < 0 then (spec_FloatOf.j1 k (wrap64 (-x0)) 9223372036854775808) else (spec_FloatOf.j1 k x0 0))
def spec_FloatOf.j1 : Nat → Int → Int → Option (Int)
  | 0, _, _ => none
  | k + 1, x0, x3 => spec_FloatOf.l0 k x3 (IntKind.u64.wrap (x0)) 0
def spec_FloatOf.l0 : Nat → Int → Int → Int → Option (Int)
  | 0, _, _, _ => none
  | k + 1, x3, x4, x5 => if 0 ≤ (IntKind.u64.wrap (wrap64 (x5 + 1))) then (if (shr .u64 x4 (IntKind.u64.wrap (wrap64 (x5 + 1)))) > 0 then (spec_FloatOf.l0 k x3 x4 (wrap64 (x5 + 1))) else (if 0 ≤ (IntKind.u64.wrap (x5)) then (if x5 ≤ 52 then (if 0 ≤ (IntKind.u64.wrap (wrap64 (52 - x5))) then (some (wrap64 (Go.bits .or .u64 (Go.bits .or .u64 x3 (IntKind.u64.wrap ((IntKind.u64.wrap (wrap64 (1023 + x5))) * 4503599627370496))) (shl .u64 (IntKind.u64.wrap (x4 - (shl .u64 1 (IntKind.u64.wrap (x5))))) (IntKind.u64.wrap (wrap64 (52 - x5))))))) else (none)) else (if 0 ≤ (IntKind.u64.wrap (wrap64 (x5 - 52))) then (some (wrap64 (Go.bits .or .u64 (Go.bits .or .u64 x3 (IntKind.u64.wrap ((IntKind.u64.wrap (wrap64 (1023 + x5))) * 4503599627370496))) (shr .u64 (IntKind.u64.wrap (x4 - (shl .u64 1 (IntKind.u64.wrap (x5))))) (IntKind.u64.wrap (wrap64 (x5 - 52))))))) else (none))) else (none))) else (none)
end
def spec_FloatOf.f (k : Nat) (a0 : Int) : Option (Int) := if a0 = 0 then (spec_FloatOf.j0 k a0 true) else ((spec_l1In.f a0 (-9007199254740992) 9007199254740992).bind fun t107 => (spec_FloatOf.j0 k a0 (!t107)))
theorem spec_FloatOf.mono_l : ∀ k, (∀ y0 y1, LeO (spec_FloatOf.j0 k y0 y1) (spec_FloatOf.j0 (k + 1) y0 y1)) ∧ (∀ y0 y1, LeO (spec_FloatOf.j1 k y0 y1) (spec_FloatOf.j1 (k + 1) y0 y1)) ∧ (∀ y0 y1 y2, LeO (spec_FloatOf.l0 k y0 y1 y2) (spec_FloatOf.l0 (k + 1) y0 y1 y2))
  | 0 => ⟨fun _ _ r h => by simp [spec_FloatOf.j0] at h, fun _ _ r h => by simp [spec_FloatOf.j1] at h, fun _ _ _ r h => by simp [spec_FloatOf.l0] at h⟩
  | k + 1 => by
    obtain ⟨ih0, ih1, ih2⟩ := spec_FloatOf.mono_l k
    refine ⟨?_, ?_, ?_⟩
    · intro y0 y1
      unfold spec_FloatOf.j0
      repeat' first
      | (with_reducible exact ih0 _ _)
      | (with_reducible exact ih1 _ _)
      | (with_reducible exact ih2 _ _ _)
      | (with_reducible exact LeO.refl _)
      | (with_reducible exact LeO.none _)
      | (with_reducible refine LeO.ite ?_ ?_)
      | (with_reducible refine LeO.bind ?_ (fun _ => ?_))
      | exact ih0 _ _
      | exact ih1 _ _
      | exact ih2 _ _ _
      | exact LeO.none _
      | refine LeO.ite ?_ ?_
      | refine LeO.bind ?_ (fun _ => ?_)
    · intro y0 y1
      unfold spec_FloatOf.j1
      repeat' first
      | (with_reducible exact ih0 _ _)
      | (with_reducible exact ih1 _ _)
      | (with_reducible exact ih2 _ _ _)
      | (with_reducible exact LeO.refl _)
      | (with_reducible exact LeO.none _)
      | (with_reducible refine LeO.ite ?_ ?_)
      | (with_reducible refine LeO.bind ?_ (fun _ => ?_))
      | exact ih0 _ _
      | exact ih1 _ _
      | exact ih2 _ _ _
      | exact LeO.none _
      | refine LeO.ite ?_ ?_
      | refine LeO.bind ?_ (fun _ => ?_)
    · intro y0 y1 y2
      unfold spec_FloatOf.l0
      repeat' first
      | (with_reducible exact ih0 _ _)
      | (with_reducible exact ih1 _ _)
      | (with_reducible exact ih2 _ _ _)
      | (with_reducible exact LeO.refl _)
      | (with_reducible exact LeO.none _)
      | (with_reducible refine LeO.ite ?_ ?_)
      | (with_reducible refine LeO.bind ?_ (fun _ => ?_))
      | exact ih0 _ _
      | exact ih1 _ _
      | exact ih2 _ _ _
      | exact LeO.none _
      | refine LeO.ite ?_ ?_
      | refine LeO.bind ?_ (fun _ => ?_)
theorem spec_FloatOf.mono : ∀ a0 k, LeO (spec_FloatOf.f k a0) (spec_FloatOf.f (k + 1) a0) := by
  intro a0 k
  obtain ⟨ih0, ih1, ih2⟩ := spec_FloatOf.mono_l k
  unfold spec_FloatOf.f
  repeat' first
      | (with_reducible exact ih0 _ _)
      | (with_reducible exact ih1 _ _)
      | (with_reducible exact ih2 _ _ _)
      | (with_reducible exact LeO.refl _)
      | (with_reducible exact LeO.none _)
      | (with_reducible refine LeO.ite ?_ ?_)
      | (with_reducible refine LeO.bind ?_ (fun _ => ?_))
      | exact ih0 _ _
      | exact ih1 _ _
      | exact ih2 _ _ _
      | exact LeO.none _
      | refine LeO.ite ?_ ?_
      | refine LeO.bind ?_ (fun _ => ?_)
set_option maxHeartbeats 8000000 in
set_option maxRecDepth 100000 in
theorem spec_FloatOf.calls (k : Nat) (a0 : Int) (r : Int) (w : World) (h : spec_FloatOf.f k a0 = some r) :
    Calls Try.prog 15 #[.int .i64 a0] w fun e w' => e = .returned (.int .i64 r) ∧ Drawn0 w w' := by
  have H : (if a0 = 0 then (spec_FloatOf.j0 k a0 true) else ((spec_l1In.f a0 (-9007199254740992) 9007199254740992).bind fun t107 => (spec_FloatOf.j0 k a0 (!t107)))) = some r := h
  clear h
  have HC2 := Aside0.mk H
  clear H
  go_enter Try.func15, Try.ntmps15
  go_upto_region 1 with (fail)
  go_cut [13] (fun v13 wc => ∃ (kq : Nat) (x13_1 : Bool), v13 = .bool x13_1 ∧ Aside0 (spec_FloatOf.j0 kq a0 x13_1 = some r) ∧ Aside0 (kq ≤ k) ∧ Drawn0 w wc)
  case first =>
    have H := HC2.out
    clear HC2
    by_cases c3 : a0 = 0
    · rw [if_pos c3] at H
      have c3b0 : (a0 == 0) = true := beq_iff_eq.mpr c3
      have c3b1 : (a0 != 0) = false := bne_eq_false_iff_eq.mpr c3
      clear c3
      (first | rw [c3b0] | (simp only [i64_w, i32_w]; rw [c3b0]) | skip)
      have H' := Aside0.mk H
      clear H
      go_wp2
      go_meet
      case rel => exact ⟨_, (true), (by first | rfl | (simp; done) | (simp [*]; done)), H', ⟨by first | omega | exact Nat.le_refl _⟩, by repeat (first | exact Drawn0.refl _ | apply Drawn0.step)⟩
    · rw [if_neg c3] at H
      have c3b0 : (a0 == 0) = false := beq_eq_false_iff_ne.mpr c3
      have c3b1 : (a0 != 0) = true := bne_iff_ne.mpr c3
      (first | rw [c3b0] | (simp only [i64_w, i32_w]; rw [c3b0]) | skip)
      replace H := Option.bind_eq_some_iff.mp H
      obtain ⟨t107, A40, H⟩ := H
      replace H : (spec_FloatOf.j0 k a0 (!t107)) = some r := H
      have A4 := Aside0.mk A40
      clear A40
      have H' := Aside0.mk H
      clear H
      go_wp2_with (first | (go_at_call 50; (with_reducible refine (spec_l1In.calls a0 (-9007199254740992) 9007199254740992 t107 _ A4.out).mono ?_); rintro e w' ⟨rfl, ⟨nd, rfl⟩⟩))
      go_meet
      case rel => exact ⟨_, (!t107), (by first | rfl | (simp; done) | (simp [*]; done)), H', ⟨by first | omega | exact Nat.le_refl _⟩, by repeat (first | exact Drawn0.refl _ | apply Drawn0.step)⟩
  case rest =>
    clear HC2
    try clear c1
    try clear p2
    try clear c3
    try clear c3b0
    try clear c3b1
    obtain ⟨kq, x13_1, rfl, HA, HJ1, ⟨mc1, rfl⟩⟩ := hcut
    cases kq with
    | zero => exact absurd HA.out (by simp [spec_FloatOf.j0])
    | succ kj1 =>
      have H := HA.out
      clear HA
      simp only [spec_FloatOf.j0] at H
      by_cases c5 : x13_1 = true
      · subst c5
        have H1 : (some 0) = some r := by rw [if_pos rfl] at H; exact H
        clear H
        have H := H1
        clear H1
        obtain rfl := Option.some.inj H
        go_wp2
        go_ret
        exact ⟨by first | rfl | (simp; done) | (simp [*]; done), by repeat (first | exact Drawn0.refl _ | apply Drawn0.step)⟩
      · replace c5 := Bool.eq_false_iff.mpr c5
        subst c5
        have H1 : (if a0 < 0 then (spec_FloatOf.j1 kj1 (wrap64 (-a0)) 9223372036854775808) else (spec_FloatOf.j1 kj1 a0 0)) = some r := by rw [if_neg (show ¬ (false = true) by decide)] at H; exact H
        clear H
        have H := H1
        clear H1
        have HC6 := Aside0.mk H
        clear H
        go_upto_if 15 with (fail)
        go_cut [0, 3] (fun v0 v3 wc => ∃ (kq : Nat) (x0_5 : Int) (x3_5 : Int), v0 = .int .i64 x0_5 ∧ v3 = .int .u64 x3_5 ∧ Aside0 (spec_FloatOf.j1 kq x0_5 x3_5 = some r) ∧ Aside0 (kq ≤ kj1) ∧ Drawn0 w wc)
        case first =>
          have H := HC6.out
          clear HC6
          by_cases c7 : a0 < 0
          · rw [if_pos c7] at H
            have c7b0 : decide (a0 < 0) = true := decide_eq_true c7
            clear c7
            (first | rw [c7b0] | (simp only [i64_w, i32_w]; rw [c7b0]) | skip)
            have H' := Aside0.mk H
            clear H
            go_wp2
            go_meet
            case rel => exact ⟨_, (wrap64 (-a0)), (9223372036854775808), (by first | rfl | (simp; done) | (simp [*]; done)), (by first | rfl | (simp; done) | (simp [*]; done)), H', ⟨by have := HJ1.out; first | omega | exact Nat.le_refl _⟩, by repeat (first | exact Drawn0.refl _ | apply Drawn0.step)⟩
          · rw [if_neg c7] at H
            have c7b0 : decide (a0 < 0) = false := decide_eq_false c7
            clear c7
            (first | rw [c7b0] | (simp only [i64_w, i32_w]; rw [c7b0]) | skip)
            have H' := Aside0.mk H
            clear H
            go_wp2
            go_meet
            case rel => exact ⟨_, (a0), (0), (by first | rfl | (simp; done) | (simp [*]; done)), (by first | rfl | (simp; done) | (simp [*]; done)), H', ⟨by have := HJ1.out; first | omega | exact Nat.le_refl _⟩, by repeat (first | exact Drawn0.refl _ | apply Drawn0.step)⟩
        case rest =>
          clear HC6
          try clear c1
          try clear p2
          try clear c3
          try clear c3b0
          try clear c3b1
          try clear c5
          try clear p6
          try clear c7
          try clear c7b0
          try clear p2
          obtain ⟨kq, x0_5, x3_5, rfl, rfl, HA, HJ5, ⟨mc5, rfl⟩⟩ := hcut
          cases kq with
          | zero => exact absurd HA.out (by simp [spec_FloatOf.j1])
          | succ kj5 =>
            have H := HA.out
            clear HA
            simp only [spec_FloatOf.j1] at H
            have H' := Aside0.mk H
            clear H
            go_wp2
            go_loopg [5] kj5 (fun kq v5 w' => ∃ (x5_3 : Int), v5 = .int .i64 x5_3 ∧ Aside0 (spec_FloatOf.l0 kq x3_5 (IntKind.u64.wrap (x0_5)) x5_3 = some r) ∧ Aside0 (kq ≤ kj5) ∧ Drawn0 w w')
            case atStart => exact ⟨(0), (by first | rfl | (simp; done) | (simp [*]; done)), H', ⟨Nat.le_refl _⟩, by repeat (first | exact Drawn0.refl _ | apply Drawn0.step)⟩
            case round =>
              clear H'
              try clear c1
              try clear p2
              try clear c3
              try clear c3b0
              try clear c3b1
              try clear c5
              try clear p6
              try clear c7
              try clear c7b0
              try clear p2
              try clear p6
              obtain ⟨x5_3, rfl, HA, HK3, ⟨m3, rfl⟩⟩ := hrel
              cases gk with
              | zero => exact absurd HA.out (by simp [spec_FloatOf.l0])
              | succ k3 =>
                have H := HA.out
                clear HA
                simp only [spec_FloatOf.l0] at H
                obtain ⟨ji8, hji8⟩ : ∃ j_ : Int, (IntKind.u64.wrap (wrap64 (x5_3 + 1))) = j_ := ⟨_, rfl⟩
                replace H : (if 0 ≤ (ji8) then (if (shr .u64 (IntKind.u64.wrap (x0_5)) (ji8)) > 0 then (spec_FloatOf.l0 k3 x3_5 (IntKind.u64.wrap (x0_5)) (wrap64 (x5_3 + 1))) else (if 0 ≤ (IntKind.u64.wrap (x5_3)) then (if x5_3 ≤ 52 then (if 0 ≤ (IntKind.u64.wrap (wrap64 (52 - x5_3))) then (some (wrap64 (Go.bits .or .u64 (Go.bits .or .u64 x3_5 (IntKind.u64.wrap ((IntKind.u64.wrap (wrap64 (1023 + x5_3))) * 4503599627370496))) (shl .u64 (IntKind.u64.wrap ((IntKind.u64.wrap (x0_5)) - (shl .u64 1 (IntKind.u64.wrap (x5_3))))) (IntKind.u64.wrap (wrap64 (52 - x5_3))))))) else (none)) else (if 0 ≤ (IntKind.u64.wrap (wrap64 (x5_3 - 52))) then (some (wrap64 (Go.bits .or .u64 (Go.bits .or .u64 x3_5 (IntKind.u64.wrap ((IntKind.u64.wrap (wrap64 (1023 + x5_3))) * 4503599627370496))) (shr .u64 (IntKind.u64.wrap ((IntKind.u64.wrap (x0_5)) - (shl .u64 1 (IntKind.u64.wrap (x5_3))))) (IntKind.u64.wrap (wrap64 (x5_3 - 52))))))) else (none))) else (none))) else (none)) = some r := by first | (rw [hji8] at H; exact H) | (simp only [hji8] at H ⊢; exact H)
                by_cases c9 : 0 ≤ (ji8)
                · rw [if_pos c9] at H
                  have c9b0 := eq_true c9
                  have c9b1 : decide (0 ≤ (ji8)) = true := decide_eq_true c9
                  clear c9
                  obtain ⟨ji10, hji10⟩ : ∃ j_ : Int, (shr .u64 (IntKind.u64.wrap (x0_5)) (ji8)) = j_ := ⟨_, rfl⟩
                  replace H : (if (ji10) > 0 then (spec_FloatOf.l0 k3 x3_5 (IntKind.u64.wrap (x0_5)) (wrap64 (x5_3 + 1))) else (if 0 ≤ (IntKind.u64.wrap (x5_3)) then (if x5_3 ≤ 52 then (if 0 ≤ (IntKind.u64.wrap (wrap64 (52 - x5_3))) then (some (wrap64 (Go.bits .or .u64 (Go.bits .or .u64 x3_5 (IntKind.u64.wrap ((IntKind.u64.wrap (wrap64 (1023 + x5_3))) * 4503599627370496))) (shl .u64 (IntKind.u64.wrap ((IntKind.u64.wrap (x0_5)) - (shl .u64 1 (IntKind.u64.wrap (x5_3))))) (IntKind.u64.wrap (wrap64 (52 - x5_3))))))) else (none)) else (if 0 ≤ (IntKind.u64.wrap (wrap64 (x5_3 - 52))) then (some (wrap64 (Go.bits .or .u64 (Go.bits .or .u64 x3_5 (IntKind.u64.wrap ((IntKind.u64.wrap (wrap64 (1023 + x5_3))) * 4503599627370496))) (shr .u64 (IntKind.u64.wrap ((IntKind.u64.wrap (x0_5)) - (shl .u64 1 (IntKind.u64.wrap (x5_3))))) (IntKind.u64.wrap (wrap64 (x5_3 - 52))))))) else (none))) else (none))) = some r := by first | (rw [hji10] at H; exact H) | (simp only [hji10] at H ⊢; exact H)
                  have hji10_ : ((IntKind.u64.wrap (x0_5)) / 2 ^ min (ji8).toNat 64) = ji10 := hji10
                  have hji10z : (ji8) ≤ 64 → ((IntKind.u64.wrap (x0_5)) / 2 ^ (ji8).toNat) = ji10 := shr_small hji10
                  by_cases c11 : (ji10) > 0
                  · rw [if_pos c11] at H
                    have c11b0 : decide (0 < (ji10)) = true := decide_eq_true c11
                    clear c11
                    have H' := Aside0.mk H
                    clear H
                    go_wp2
                    go_roundg k3
                    case measure => have := HJ1.out; have := HJ5.out; have := HK3.out; omega
                    case rel => exact ⟨(wrap64 (x5_3 + 1)), (by first | rfl | (simp; done) | (simp [*]; done)), H', ⟨by have := HJ1.out; have := HJ5.out; have := HK3.out; omega⟩, by repeat (first | exact Drawn0.refl _ | apply Drawn0.step)⟩
                  · rw [if_neg c11] at H
                    have c11b0 : decide (0 < (ji10)) = false := decide_eq_false c11
                    clear c11
                    obtain ⟨ji12, hji12⟩ : ∃ j_ : Int, (IntKind.u64.wrap (x5_3)) = j_ := ⟨_, rfl⟩
                    replace H : (if 0 ≤ (ji12) then (if x5_3 ≤ 52 then (if 0 ≤ (IntKind.u64.wrap (wrap64 (52 - x5_3))) then (some (wrap64 (Go.bits .or .u64 (Go.bits .or .u64 x3_5 (IntKind.u64.wrap ((IntKind.u64.wrap (wrap64 (1023 + x5_3))) * 4503599627370496))) (shl .u64 (IntKind.u64.wrap ((IntKind.u64.wrap (x0_5)) - (shl .u64 1 (ji12)))) (IntKind.u64.wrap (wrap64 (52 - x5_3))))))) else (none)) else (if 0 ≤ (IntKind.u64.wrap (wrap64 (x5_3 - 52))) then (some (wrap64 (Go.bits .or .u64 (Go.bits .or .u64 x3_5 (IntKind.u64.wrap ((IntKind.u64.wrap (wrap64 (1023 + x5_3))) * 4503599627370496))) (shr .u64 (IntKind.u64.wrap ((IntKind.u64.wrap (x0_5)) - (shl .u64 1 (ji12)))) (IntKind.u64.wrap (wrap64 (x5_3 - 52))))))) else (none))) else (none)) = some r := by first | (rw [hji12] at H; exact H) | (simp only [hji12] at H ⊢; exact H)
                    by_cases c13 : 0 ≤ (ji12)
                    · rw [if_pos c13] at H
                      have c13b0 := eq_true c13
                      have c13b1 : decide (0 ≤ (ji12)) = true := decide_eq_true c13
                      clear c13
                      obtain ⟨ji14, hji14⟩ : ∃ j_ : Int, (shl .u64 1 (ji12)) = j_ := ⟨_, rfl⟩
                      replace H : (if x5_3 ≤ 52 then (if 0 ≤ (IntKind.u64.wrap (wrap64 (52 - x5_3))) then (some (wrap64 (Go.bits .or .u64 (Go.bits .or .u64 x3_5 (IntKind.u64.wrap ((IntKind.u64.wrap (wrap64 (1023 + x5_3))) * 4503599627370496))) (shl .u64 (IntKind.u64.wrap ((IntKind.u64.wrap (x0_5)) - (ji14))) (IntKind.u64.wrap (wrap64 (52 - x5_3))))))) else (none)) else (if 0 ≤ (IntKind.u64.wrap (wrap64 (x5_3 - 52))) then (some (wrap64 (Go.bits .or .u64 (Go.bits .or .u64 x3_5 (IntKind.u64.wrap ((IntKind.u64.wrap (wrap64 (1023 + x5_3))) * 4503599627370496))) (shr .u64 (IntKind.u64.wrap ((IntKind.u64.wrap (x0_5)) - (ji14))) (IntKind.u64.wrap (wrap64 (x5_3 - 52))))))) else (none))) = some r := by first | (rw [hji14] at H; exact H) | (simp only [hji14] at H ⊢; exact H)
                      have hji14_ : (IntKind.u64.wrap (1 * 2 ^ min (ji12).toNat 64)) = ji14 := hji14
                      have hji14z : (ji12) ≤ 64 → (IntKind.u64.wrap (1 * 2 ^ (ji12).toNat)) = ji14 := shl_small hji14
                      have hji14u : (IntKind.u64.wrap (2 ^ min (ji12).toNat 64)) = ji14 := by have h_ := hji14_; rw [Int.one_mul] at h_; exact h_
                      have hji14v : (ji12) ≤ 64 → (IntKind.u64.wrap (2 ^ (ji12).toNat)) = ji14 := fun hle_ => by have h_ := hji14z hle_; rw [Int.one_mul] at h_; exact h_
                      by_cases c15 : x5_3 ≤ 52
                      · rw [if_pos c15] at H
                        have c15b0 : decide (x5_3 ≤ 52) = true := decide_eq_true c15
                        clear c15
                        obtain ⟨ji16, hji16⟩ : ∃ j_ : Int, (IntKind.u64.wrap (wrap64 (52 - x5_3))) = j_ := ⟨_, rfl⟩
                        replace H : (if 0 ≤ (ji16) then (some (wrap64 (Go.bits .or .u64 (Go.bits .or .u64 x3_5 (IntKind.u64.wrap ((IntKind.u64.wrap (wrap64 (1023 + x5_3))) * 4503599627370496))) (shl .u64 (IntKind.u64.wrap ((IntKind.u64.wrap (x0_5)) - (ji14))) (ji16))))) else (none)) = some r := by first | (rw [hji16] at H; exact H) | (simp only [hji16] at H ⊢; exact H)
                        by_cases c17 : 0 ≤ (ji16)
                        · rw [if_pos c17] at H
                          have c17b0 := eq_true c17
                          have c17b1 : decide (0 ≤ (ji16)) = true := decide_eq_true c17
                          clear c17
                          obtain ⟨ji18, hji18⟩ : ∃ j_ : Int, (shl .u64 (IntKind.u64.wrap ((IntKind.u64.wrap (x0_5)) - (ji14))) (ji16)) = j_ := ⟨_, rfl⟩
                          replace H : (some (wrap64 (Go.bits .or .u64 (Go.bits .or .u64 x3_5 (IntKind.u64.wrap ((IntKind.u64.wrap (wrap64 (1023 + x5_3))) * 4503599627370496))) (ji18)))) = some r := by first | (rw [hji18] at H; exact H) | (simp only [hji18] at H ⊢; exact H)
                          have hji18_ : (IntKind.u64.wrap ((IntKind.u64.wrap ((IntKind.u64.wrap (x0_5)) - (ji14))) * 2 ^ min (ji16).toNat 64)) = ji18 := hji18
                          have hji18z : (ji16) ≤ 64 → (IntKind.u64.wrap ((IntKind.u64.wrap ((IntKind.u64.wrap (x0_5)) - (ji14))) * 2 ^ (ji16).toNat)) = ji18 := shl_small hji18
                          obtain rfl := Option.some.inj H
                          go_wp2
                          go_ret
                          exact ⟨by first | rfl | (simp; done) | (simp only [← hji8, ← hji10, ← hji12, ← hji14, ← hji16, ← hji18] <;> (first | rfl | simp)) | (simp [*]; done), by repeat (first | exact Drawn0.refl _ | apply Drawn0.step)⟩
                        · rw [if_neg c17] at H
                          exact absurd H (by simp)
                      · rw [if_neg c15] at H
                        have c15b0 : decide (x5_3 ≤ 52) = false := decide_eq_false c15
                        clear c15
                        obtain ⟨ji19, hji19⟩ : ∃ j_ : Int, (IntKind.u64.wrap (wrap64 (x5_3 - 52))) = j_ := ⟨_, rfl⟩
                        replace H : (if 0 ≤ (ji19) then (some (wrap64 (Go.bits .or .u64 (Go.bits .or .u64 x3_5 (IntKind.u64.wrap ((IntKind.u64.wrap (wrap64 (1023 + x5_3))) * 4503599627370496))) (shr .u64 (IntKind.u64.wrap ((IntKind.u64.wrap (x0_5)) - (ji14))) (ji19))))) else (none)) = some r := by first | (rw [hji19] at H; exact H) | (simp only [hji19] at H ⊢; exact H)
                        by_cases c20 : 0 ≤ (ji19)
                        · rw [if_pos c20] at H
                          have c20b0 := eq_true c20
                          have c20b1 : decide (0 ≤ (ji19)) = true := decide_eq_true c20
                          clear c20
                          obtain ⟨ji21, hji21⟩ : ∃ j_ : Int, (shr .u64 (IntKind.u64.wrap ((IntKind.u64.wrap (x0_5)) - (ji14))) (ji19)) = j_ := ⟨_, rfl⟩
                          replace H : (some (wrap64 (Go.bits .or .u64 (Go.bits .or .u64 x3_5 (IntKind.u64.wrap ((IntKind.u64.wrap (wrap64 (1023 + x5_3))) * 4503599627370496))) (ji21)))) = some r := by first | (rw [hji21] at H; exact H) | (simp only [hji21] at H ⊢; exact H)
                          have hji21_ : ((IntKind.u64.wrap ((IntKind.u64.wrap (x0_5)) - (ji14))) / 2 ^ min (ji19).toNat 64) = ji21 := hji21
                          have hji21z : (ji19) ≤ 64 → ((IntKind.u64.wrap ((IntKind.u64.wrap (x0_5)) - (ji14))) / 2 ^ (ji19).toNat) = ji21 := shr_small hji21
                          obtain rfl := Option.some.inj H
                          go_wp2
                          go_ret
                          exact ⟨by first | rfl | (simp; done) | (simp only [← hji8, ← hji10, ← hji12, ← hji14, ← hji19, ← hji21] <;> (first | rfl | simp)) | (simp [*]; done), by repeat (first | exact Drawn0.refl _ | apply Drawn0.step)⟩
                        · rw [if_neg c20] at H
                          exact absurd H (by simp)
                    · rw [if_neg c13] at H
                      exact absurd H (by simp)
                · rw [if_neg c9] at H
                  exact absurd H (by simp)

end Go.Proofs.Ytffcohllkoefeaa.PFnExactIntOf
