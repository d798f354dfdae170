/- The functions that the law FnCurve reaches, each with what it computes and its contract. -/
import Derived.Test.YtebnhcliileneaaQFnCurvex0
namespace Go.Proofs.Ytebnhcliileneaa.PFnCurve
open Go.RowKit Go.Proofs.YtebnhcliileneaaW.PrintWords Go.Proofs.YtebnhcliileneaaW.PrintLast Go.Proofs.YtebnhcliileneaaW.PrintMore
attribute [local go_sem] max2_int min2_int max_two min_two max_three min_three max_four min_four   -- for this text's walks alone
set_option linter.unusedVariables false
set_option linter.unusedSimpArgs false

/-! ### impl_cellOf: function 87 -/
def impl_cellOf.l0 : Nat → Int → Int → Int → Int → Int → Option (Int × Int)
  | 0, _, _, _, _, _ => none
  | k + 1, x0, x6, x7, x10, x11 => if x11 < x10 then (if 0 ≤ (IntKind.u64.wrap (x11)) then (if 0 ≤ (IntKind.u64.wrap (wrap64 (2 * x11))) then (if (Go.bits .and .i64 (shr .i64 x0 (IntKind.u64.wrap (wrap64 (2 * x11)))) 3) = 0 then (impl_cellOf.l0 k x0 x7 x6 x10 (wrap64 (x11 + 1))) else (if (Go.bits .and .i64 (shr .i64 x0 (IntKind.u64.wrap (wrap64 (2 * x11)))) 3) = 1 then (impl_cellOf.l0 k x0 x6 (wrap64 (x7 + (shl .i64 1 (IntKind.u64.wrap (x11))))) x10 (wrap64 (x11 + 1))) else (if (Go.bits .and .i64 (shr .i64 x0 (IntKind.u64.wrap (wrap64 (2 * x11)))) 3) = 2 then (impl_cellOf.l0 k x0 (wrap64 (x6 + (shl .i64 1 (IntKind.u64.wrap (x11))))) (wrap64 (x7 + (shl .i64 1 (IntKind.u64.wrap (x11))))) x10 (wrap64 (x11 + 1))) else (impl_cellOf.l0 k x0 (wrap64 ((wrap64 ((wrap64 (2 * (shl .i64 1 (IntKind.u64.wrap (x11))))) - 1)) - x7)) (wrap64 ((wrap64 ((shl .i64 1 (IntKind.u64.wrap (x11))) - 1)) - x6)) x10 (wrap64 (x11 + 1)))))) else (none)) else (none)) else (some (x6, x7))
def impl_cellOf.f (k : Nat) (a0 : Int) (a1 : Int) : Option (Int × Int) := impl_cellOf.l0 k a0 0 0 a1 0
theorem impl_cellOf.mono_l : ∀ k, (∀ y0 y1 y2 y3 y4, LeO (impl_cellOf.l0 k y0 y1 y2 y3 y4) (impl_cellOf.l0 (k + 1) y0 y1 y2 y3 y4))
  | 0 => fun _ _ _ _ _ r h => by simp [impl_cellOf.l0] at h
  | k + 1 => by
    have ih0 := impl_cellOf.mono_l k
    · intro y0 y1 y2 y3 y4
      unfold impl_cellOf.l0
      repeat' first
      | (with_reducible exact ih0 _ _ _ _ _)
      | (with_reducible exact LeO.refl _)
      | (with_reducible exact LeO.none _)
      | (with_reducible refine LeO.ite ?_ ?_)
      | (with_reducible refine LeO.bind ?_ (fun _ => ?_))
      | exact ih0 _ _ _ _ _
      | exact LeO.none _
      | refine LeO.ite ?_ ?_
      | refine LeO.bind ?_ (fun _ => ?_)
theorem impl_cellOf.mono : ∀ a0 a1 k, LeO (impl_cellOf.f k a0 a1) (impl_cellOf.f (k + 1) a0 a1) := by
  intro a0 a1 k
  have ih0 := impl_cellOf.mono_l k
  unfold impl_cellOf.f
  repeat' first
      | (with_reducible exact ih0 _ _ _ _ _)
      | (with_reducible exact LeO.refl _)
      | (with_reducible exact LeO.none _)
      | (with_reducible refine LeO.ite ?_ ?_)
      | (with_reducible refine LeO.bind ?_ (fun _ => ?_))
      | exact ih0 _ _ _ _ _
      | exact LeO.none _
      | refine LeO.ite ?_ ?_
      | refine LeO.bind ?_ (fun _ => ?_)
set_option maxHeartbeats 8000000 in
set_option maxRecDepth 100000 in
theorem impl_cellOf.calls (k : Nat) (a0 : Int) (a1 : Int) (r1 : Int) (r2 : Int) (w : World) (h : impl_cellOf.f k a0 a1 = some (r1, r2)) :
    Calls Try.prog 87 #[.int .i64 a0, .int .i64 a1] w fun e w' => e = .returned (.tuple #[.int .i64 r1, .int .i64 r2]) ∧ Drawn0 w w' := by
  have H : (impl_cellOf.l0 k a0 0 0 a1 0) = some (r1, r2) := h
  clear h
  have H' := Aside0.mk H
  clear H
  go_enter Try.func87, Try.ntmps87
  go_wp2
  go_loopg [6, 7, 11] k (fun kq v6 v7 v11 w' => ∃ (x6_1 : Int) (x7_1 : Int) (x11_1 : Int), v6 = .int .i64 x6_1 ∧ v7 = .int .i64 x7_1 ∧ v11 = .int .i64 x11_1 ∧ Aside0 (impl_cellOf.l0 kq a0 x6_1 x7_1 a1 x11_1 = some (r1, r2)) ∧ Aside0 (kq ≤ k) ∧ Drawn0 w w')
  case atStart => exact ⟨(0), (0), (0), (by first | rfl | (simp; done) | (simp [*]; done)), (by first | rfl | (simp; done) | (simp [*]; done)), (by first | rfl | (simp; done) | (simp [*]; done)), H', ⟨Nat.le_refl _⟩, by repeat (first | exact Drawn0.refl _ | apply Drawn0.step)⟩
  case round =>
    clear H'
    try clear p2
    obtain ⟨x6_1, x7_1, x11_1, rfl, rfl, rfl, HA, HK1, ⟨m1, rfl⟩⟩ := hrel
    cases gk with
    | zero => exact absurd HA.out (by simp [impl_cellOf.l0])
    | succ k1 =>
      have H := HA.out
      clear HA
      simp only [impl_cellOf.l0] at H
      by_cases c3 : x11_1 < a1
      · rw [if_pos c3] at H
        have c3b0 : decide (x11_1 < a1) = true := decide_eq_true c3
        clear c3
        obtain ⟨ji4, hji4⟩ : ∃ j_ : Int, (IntKind.u64.wrap (x11_1)) = j_ := ⟨_, rfl⟩
        replace H : (if 0 ≤ (ji4) then (if 0 ≤ (IntKind.u64.wrap (wrap64 (2 * x11_1))) then (if (Go.bits .and .i64 (shr .i64 a0 (IntKind.u64.wrap (wrap64 (2 * x11_1)))) 3) = 0 then (impl_cellOf.l0 k1 a0 x7_1 x6_1 a1 (wrap64 (x11_1 + 1))) else (if (Go.bits .and .i64 (shr .i64 a0 (IntKind.u64.wrap (wrap64 (2 * x11_1)))) 3) = 1 then (impl_cellOf.l0 k1 a0 x6_1 (wrap64 (x7_1 + (shl .i64 1 (ji4)))) a1 (wrap64 (x11_1 + 1))) else (if (Go.bits .and .i64 (shr .i64 a0 (IntKind.u64.wrap (wrap64 (2 * x11_1)))) 3) = 2 then (impl_cellOf.l0 k1 a0 (wrap64 (x6_1 + (shl .i64 1 (ji4)))) (wrap64 (x7_1 + (shl .i64 1 (ji4)))) a1 (wrap64 (x11_1 + 1))) else (impl_cellOf.l0 k1 a0 (wrap64 ((wrap64 ((wrap64 (2 * (shl .i64 1 (ji4)))) - 1)) - x7_1)) (wrap64 ((wrap64 ((shl .i64 1 (ji4)) - 1)) - x6_1)) a1 (wrap64 (x11_1 + 1)))))) else (none)) else (none)) = some (r1, r2) := by first | (rw [hji4] at H; exact H) | (simp only [hji4] at H ⊢; exact H)
        by_cases c5 : 0 ≤ (ji4)
        · rw [if_pos c5] at H
          have c5b0 := eq_true c5
          have c5b1 : decide (0 ≤ (ji4)) = true := decide_eq_true c5
          clear c5
          obtain ⟨ji6, hji6⟩ : ∃ j_ : Int, (shl .i64 1 (ji4)) = j_ := ⟨_, rfl⟩
          replace H : (if 0 ≤ (IntKind.u64.wrap (wrap64 (2 * x11_1))) then (if (Go.bits .and .i64 (shr .i64 a0 (IntKind.u64.wrap (wrap64 (2 * x11_1)))) 3) = 0 then (impl_cellOf.l0 k1 a0 x7_1 x6_1 a1 (wrap64 (x11_1 + 1))) else (if (Go.bits .and .i64 (shr .i64 a0 (IntKind.u64.wrap (wrap64 (2 * x11_1)))) 3) = 1 then (impl_cellOf.l0 k1 a0 x6_1 (wrap64 (x7_1 + (ji6))) a1 (wrap64 (x11_1 + 1))) else (if (Go.bits .and .i64 (shr .i64 a0 (IntKind.u64.wrap (wrap64 (2 * x11_1)))) 3) = 2 then (impl_cellOf.l0 k1 a0 (wrap64 (x6_1 + (ji6))) (wrap64 (x7_1 + (ji6))) a1 (wrap64 (x11_1 + 1))) else (impl_cellOf.l0 k1 a0 (wrap64 ((wrap64 ((wrap64 (2 * (ji6))) - 1)) - x7_1)) (wrap64 ((wrap64 ((ji6) - 1)) - x6_1)) a1 (wrap64 (x11_1 + 1)))))) else (none)) = some (r1, r2) := by first | (rw [hji6] at H; exact H) | (simp only [hji6] at H ⊢; exact H)
          have hji6_ : (IntKind.i64.wrap (1 * 2 ^ min (ji4).toNat 64)) = ji6 := hji6
          have hji6z : (ji4) ≤ 64 → (IntKind.i64.wrap (1 * 2 ^ (ji4).toNat)) = ji6 := shl_small hji6
          have hji6u : (IntKind.i64.wrap (2 ^ min (ji4).toNat 64)) = ji6 := by have h_ := hji6_; rw [Int.one_mul] at h_; exact h_
          have hji6v : (ji4) ≤ 64 → (IntKind.i64.wrap (2 ^ (ji4).toNat)) = ji6 := fun hle_ => by have h_ := hji6z hle_; rw [Int.one_mul] at h_; exact h_
          have hji6y : (wrap64 (1 * 2 ^ min (ji4).toNat 64)) = ji6 := (i64_w _).symm.trans hji6_
          have hji6x : (ji4) ≤ 64 → (wrap64 (1 * 2 ^ (ji4).toNat)) = ji6 := fun h_ => (i64_w _).symm.trans (hji6z h_)
          obtain ⟨ji7, hji7⟩ : ∃ j_ : Int, (IntKind.u64.wrap (wrap64 (2 * x11_1))) = j_ := ⟨_, rfl⟩
          replace H : (if 0 ≤ (ji7) then (if (Go.bits .and .i64 (shr .i64 a0 (ji7)) 3) = 0 then (impl_cellOf.l0 k1 a0 x7_1 x6_1 a1 (wrap64 (x11_1 + 1))) else (if (Go.bits .and .i64 (shr .i64 a0 (ji7)) 3) = 1 then (impl_cellOf.l0 k1 a0 x6_1 (wrap64 (x7_1 + (ji6))) a1 (wrap64 (x11_1 + 1))) else (if (Go.bits .and .i64 (shr .i64 a0 (ji7)) 3) = 2 then (impl_cellOf.l0 k1 a0 (wrap64 (x6_1 + (ji6))) (wrap64 (x7_1 + (ji6))) a1 (wrap64 (x11_1 + 1))) else (impl_cellOf.l0 k1 a0 (wrap64 ((wrap64 ((wrap64 (2 * (ji6))) - 1)) - x7_1)) (wrap64 ((wrap64 ((ji6) - 1)) - x6_1)) a1 (wrap64 (x11_1 + 1)))))) else (none)) = some (r1, r2) := by first | (rw [hji7] at H; exact H) | (simp only [hji7] at H ⊢; exact H)
          by_cases c8 : 0 ≤ (ji7)
          · rw [if_pos c8] at H
            have c8b0 := eq_true c8
            have c8b1 : decide (0 ≤ (ji7)) = true := decide_eq_true c8
            clear c8
            obtain ⟨ji9, hji9⟩ : ∃ j_ : Int, (shr .i64 a0 (ji7)) = j_ := ⟨_, rfl⟩
            replace H : (if (Go.bits .and .i64 (ji9) 3) = 0 then (impl_cellOf.l0 k1 a0 x7_1 x6_1 a1 (wrap64 (x11_1 + 1))) else (if (Go.bits .and .i64 (ji9) 3) = 1 then (impl_cellOf.l0 k1 a0 x6_1 (wrap64 (x7_1 + (ji6))) a1 (wrap64 (x11_1 + 1))) else (if (Go.bits .and .i64 (ji9) 3) = 2 then (impl_cellOf.l0 k1 a0 (wrap64 (x6_1 + (ji6))) (wrap64 (x7_1 + (ji6))) a1 (wrap64 (x11_1 + 1))) else (impl_cellOf.l0 k1 a0 (wrap64 ((wrap64 ((wrap64 (2 * (ji6))) - 1)) - x7_1)) (wrap64 ((wrap64 ((ji6) - 1)) - x6_1)) a1 (wrap64 (x11_1 + 1)))))) = some (r1, r2) := by first | (rw [hji9] at H; exact H) | (simp only [hji9] at H ⊢; exact H)
            have hji9_ : (a0 / 2 ^ min (ji7).toNat 64) = ji9 := hji9
            have hji9z : (ji7) ≤ 64 → (a0 / 2 ^ (ji7).toNat) = ji9 := shr_small hji9
            by_cases c10 : (Go.bits .and .i64 (ji9) 3) = 0
            · rw [if_pos c10] at H
              have c10b0 : ((Go.bits .and .i64 (ji9) 3) == 0) = true := beq_iff_eq.mpr c10
              have c10b1 : ((Go.bits .and .i64 (ji9) 3) != 0) = false := bne_eq_false_iff_eq.mpr c10
              clear c10
              have H' := Aside0.mk H
              clear H
              go_wp2
              go_roundg k1
              case measure => have := HK1.out; omega
              case rel => exact ⟨(x7_1), (x6_1), (wrap64 (x11_1 + 1)), (by first | rfl | (simp; done) | (simp [*]; done)), (by first | rfl | (simp; done) | (simp [*]; done)), (by first | rfl | (simp; done) | (simp [*]; done)), H', ⟨by have := HK1.out; omega⟩, by repeat (first | exact Drawn0.refl _ | apply Drawn0.step)⟩
            · rw [if_neg c10] at H
              have c10b0 : ((Go.bits .and .i64 (ji9) 3) == 0) = false := beq_eq_false_iff_ne.mpr c10
              have c10b1 : ((Go.bits .and .i64 (ji9) 3) != 0) = true := bne_iff_ne.mpr c10
              by_cases c11 : (Go.bits .and .i64 (ji9) 3) = 1
              · rw [if_pos c11] at H
                have c11b0 : ((Go.bits .and .i64 (ji9) 3) == 1) = true := beq_iff_eq.mpr c11
                have c11b1 : ((Go.bits .and .i64 (ji9) 3) != 1) = false := bne_eq_false_iff_eq.mpr c11
                clear c11
                have H' := Aside0.mk H
                clear H
                go_wp2
                go_roundg k1
                case measure => have := HK1.out; omega
                case rel => exact ⟨(x6_1), (wrap64 (x7_1 + (ji6))), (wrap64 (x11_1 + 1)), (by first | rfl | (simp; done) | (simp [*]; done)), (by first | rfl | (simp; done) | (simp only [← hji6] <;> (first | rfl | simp)) | (simp [*]; done)), (by first | rfl | (simp; done) | (simp [*]; done)), H', ⟨by have := HK1.out; omega⟩, by repeat (first | exact Drawn0.refl _ | apply Drawn0.step)⟩
              · rw [if_neg c11] at H
                have c11b0 : ((Go.bits .and .i64 (ji9) 3) == 1) = false := beq_eq_false_iff_ne.mpr c11
                have c11b1 : ((Go.bits .and .i64 (ji9) 3) != 1) = true := bne_iff_ne.mpr c11
                by_cases c12 : (Go.bits .and .i64 (ji9) 3) = 2
                · rw [if_pos c12] at H
                  have c12b0 : ((Go.bits .and .i64 (ji9) 3) == 2) = true := beq_iff_eq.mpr c12
                  have c12b1 : ((Go.bits .and .i64 (ji9) 3) != 2) = false := bne_eq_false_iff_eq.mpr c12
                  clear c12
                  have H' := Aside0.mk H
                  clear H
                  go_wp2
                  go_roundg k1
                  case measure => have := HK1.out; omega
                  case rel => exact ⟨(wrap64 (x6_1 + (ji6))), (wrap64 (x7_1 + (ji6))), (wrap64 (x11_1 + 1)), (by first | rfl | (simp; done) | (simp only [← hji6] <;> (first | rfl | simp)) | (simp [*]; done)), (by first | rfl | (simp; done) | (simp only [← hji6] <;> (first | rfl | simp)) | (simp [*]; done)), (by first | rfl | (simp; done) | (simp [*]; done)), H', ⟨by have := HK1.out; omega⟩, by repeat (first | exact Drawn0.refl _ | apply Drawn0.step)⟩
                · rw [if_neg c12] at H
                  have c12b0 : ((Go.bits .and .i64 (ji9) 3) == 2) = false := beq_eq_false_iff_ne.mpr c12
                  have c12b1 : ((Go.bits .and .i64 (ji9) 3) != 2) = true := bne_iff_ne.mpr c12
                  have H' := Aside0.mk H
                  clear H
                  go_wp2
                  go_roundg k1
                  case measure => have := HK1.out; omega
                  case rel => exact ⟨(wrap64 ((wrap64 ((wrap64 (2 * (ji6))) - 1)) - x7_1)), (wrap64 ((wrap64 ((ji6) - 1)) - x6_1)), (wrap64 (x11_1 + 1)), (by first | rfl | (simp; done) | (simp only [← hji6] <;> (first | rfl | simp)) | (simp [*]; done)), (by first | rfl | (simp; done) | (simp only [← hji6] <;> (first | rfl | simp)) | (simp [*]; done)), (by first | rfl | (simp; done) | (simp [*]; done)), H', ⟨by have := HK1.out; omega⟩, by repeat (first | exact Drawn0.refl _ | apply Drawn0.step)⟩
          · rw [if_neg c8] at H
            exact absurd H (by simp)
        · rw [if_neg c5] at H
          exact absurd H (by simp)
      · rw [if_neg c3] at H
        have c3b0 : decide (x11_1 < a1) = false := decide_eq_false c3
        clear c3
        simp only [Option.some.injEq, Prod.mk.injEq] at H
        obtain ⟨rfl, rfl⟩ := H
        go_wp2
        go_ret2
        exact ⟨by first | rfl | (simp; done) | (simp [*]; done), by repeat (first | exact Drawn0.refl _ | apply Drawn0.step)⟩

end Go.Proofs.Ytebnhcliileneaa.PFnCurve
