/- The functions that the law FnExactCurveSort reaches, each with what it computes and its contract. -/
import Derived.Test.YtinilabmffjnaaaQFnExactCurveSortx0
namespace Go.Proofs.Ytinilabmffjnaaa.PFnExactCurveSort
open Go.RowKit Go.Proofs.YtinilabmffjnaaaW.PrintWords Go.Proofs.YtinilabmffjnaaaW.PrintLast Go.Proofs.YtinilabmffjnaaaW.PrintMore
attribute [local go_sem] max2_int min2_int max_two min_two max_three min_three max_four min_four
set_option linter.unusedVariables false
set_option linter.unusedSimpArgs false

mutual
def spec_l10Of.l0 : Nat → Int → Int → Int → Int → Option (Int)
 | 0, _, _, _, _ => none
 | k + 1, x0, x1, x7, x8 => if x8 > 0 then (if 0 ≤ (IntKind.u64.wrap (wrap64 (x8 - 1))) then (if x0 < (shl .i64 1 (IntKind.u64.wrap (wrap64 (x8 - 1)))) then (spec_l10Of.j1 k x0 x1 x7 x8 (shl .i64 1 (IntKind.u64.wrap (wrap64 (x8 - 1)))) 0 x0 (decide (x1 < (shl .i64 1 (IntKind.u64.wrap (wrap64 (x8 - 1))))))) else (spec_l10Of.j1 k x0 x1 x7 x8 (shl .i64 1 (IntKind.u64.wrap (wrap64 (x8 - 1)))) 0 x0 false)) else (none)) else (some x7)
def spec_l10Of.j1 : Nat → Int → Int → Int → Int → Int → Int → Int → Bool → Option (Int)
 | 0, _, _, _, _, _, _, _, _ => none
 | k + 1, x0, x1, x7, x8, x9, x10, x11, x33 => if x33 = true then (spec_l10Of.l0 k x1 x0 (wrap64 ((wrap64 (x7 * 4)) + x10)) (wrap64 (x8 - 1))) else (if x0 < x9 then (spec_l10Of.l0 k x11 (wrap64 (x1 - x9)) (wrap64 ((wrap64 (x7 * 4)) + 1)) (wrap64 (x8 - 1))) else (if x1 ≥ x9 then (spec_l10Of.l0 k (wrap64 (x0 - x9)) (wrap64 (x1 - x9)) (wrap64 ((wrap64 (x7 * 4)) + 2)) (wrap64 (x8 - 1))) else (spec_l10Of.l0 k (wrap64 ((wrap64 (x9 - 1)) - x1)) (wrap64 ((wrap64 ((wrap64 (2 * x9)) - 1)) - x0)) (wrap64 ((wrap64 (x7 * 4)) + 3)) (wrap64 (x8 - 1)))))
end
def spec_l10Of.f (k : Nat) (a0 : Int) (a1 : Int) (a2 : Int) : Option (Int) := spec_l10Of.l0 k a0 a1 0 a2
set_option maxHeartbeats 8000000 in
set_option maxRecDepth 100000 in
theorem spec_l10Of.calls (k : Nat) (a0 : Int) (a1 : Int) (a2 : Int) (r : Int) (w : World) (h : spec_l10Of.f k a0 a1 a2 = some r) :
  Calls Try.prog 128 #[.int .i64 a0, .int .i64 a1, .int .i64 a2] w fun e w' => e = .returned (.int .i64 r) ∧ Drawn0 w w' := by
 have H : (spec_l10Of.l0 k a0 a1 0 a2) = some r := h
 clear h
 have H' := Ak H
 clear H
 go_enter Try.func128, Try.ntmps128
 go_wp2
 go_loopg [0, 1, 7, 8] k (fun kq v0 v1 v7 v8 w' => ∃ (x0_1 : Int) (x1_1 : Int) (x7_1 : Int) (x8_1 : Int), v0 = .int .i64 x0_1 ∧ v1 = .int .i64 x1_1 ∧ v7 = .int .i64 x7_1 ∧ v8 = .int .i64 x8_1 ∧ Aside0 (spec_l10Of.l0 kq x0_1 x1_1 x7_1 x8_1 = some r) ∧ Aside0 (kq ≤ k) ∧ Drawn0 w w')
 case atStart => exact ⟨(a0), (a1), (0), (a2), (by first | rfl | (simp; done) | (simp [*]; done)), (by first | rfl | (simp; done) | (simp [*]; done)), (by first | rfl | (simp; done) | (simp [*]; done)), (by first | rfl | (simp; done) | (simp [*]; done)), H', ⟨Nat.le_refl _⟩, by repeat (first | exact Drawn0.refl _ | apply Drawn0.step)⟩
 case round =>
  clear H'
  obtain ⟨x0_1, x1_1, x7_1, x8_1, rfl, rfl, rfl, rfl, HA, HK1, ⟨m1, rfl⟩⟩ := hrel
  cases gk with
  | zero => exact absurd HA.out (by simp [spec_l10Of.l0])
  | succ k1 =>
   have H := HA.out
   clear HA
   simp only [spec_l10Of.l0] at H
   by_cases c4 : x8_1 > 0
   ·rw [if_pos c4] at H
    have c4b0 : decide (0 < x8_1) = true := decide_eq_true c4
    clear c4
    obtain ⟨ji5, hji5⟩ : ∃ j_ : Int, (IntKind.u64.wrap (wrap64 (x8_1 - 1))) = j_ := ⟨_, rfl⟩
    replace H : (if 0 ≤ (ji5) then (if x0_1 < (shl .i64 1 (ji5)) then (spec_l10Of.j1 k1 x0_1 x1_1 x7_1 x8_1 (shl .i64 1 (ji5)) 0 x0_1 (decide (x1_1 < (shl .i64 1 (ji5))))) else (spec_l10Of.j1 k1 x0_1 x1_1 x7_1 x8_1 (shl .i64 1 (ji5)) 0 x0_1 false)) else (none)) = some r := by first | (rw [hji5] at H; exact H) | (simp only [hji5] at H ⊢; exact H)
    by_cases c6 : 0 ≤ (ji5)
    ·rw [if_pos c6] at H
     have c6b0 := eq_true c6
     have c6b1 : decide (0 ≤ (ji5)) = true := decide_eq_true c6
     clear c6
     obtain ⟨ji7, hji7⟩ : ∃ j_ : Int, (shl .i64 1 (ji5)) = j_ := ⟨_, rfl⟩
     replace H : (if x0_1 < (ji7) then (spec_l10Of.j1 k1 x0_1 x1_1 x7_1 x8_1 ji7 0 x0_1 (decide (x1_1 < (ji7)))) else (spec_l10Of.j1 k1 x0_1 x1_1 x7_1 x8_1 ji7 0 x0_1 false)) = some r := by first | (rw [hji7] at H; exact H) | (simp only [hji7] at H ⊢; exact H)
     have hji7_ : (IntKind.i64.wrap (1 * 2 ^ min (ji5).toNat 64)) = ji7 := hji7
     have hji7z : (ji5) ≤ 64 → (IntKind.i64.wrap (1 * 2 ^ (ji5).toNat)) = ji7 := shl_small hji7
     have hji7u : (IntKind.i64.wrap (2 ^ min (ji5).toNat 64)) = ji7 := by have h_ := hji7_; rw [Int.one_mul] at h_; exact h_
     have hji7v : (ji5) ≤ 64 → (IntKind.i64.wrap (2 ^ (ji5).toNat)) = ji7 := fun hle_ => by have h_ := hji7z hle_; rw [Int.one_mul] at h_; exact h_
     have hji7y : (wrap64 (1 * 2 ^ min (ji5).toNat 64)) = ji7 := (i64_w _).symm.trans hji7_
     have hji7x : (ji5) ≤ 64 → (wrap64 (1 * 2 ^ (ji5).toNat)) = ji7 := fun h_ => (i64_w _).symm.trans (hji7z h_)
     have HC8 := Ak H
     clear H
     go_upto_region 12 with (fail)
     go_cut [33] (fun v33 wc => ∃ (kq : Nat) (x33_7 : Bool), v33 = .bool x33_7 ∧ Aside0 (spec_l10Of.j1 kq x0_1 x1_1 x7_1 x8_1 ji7 0 x0_1 x33_7 = some r) ∧ Aside0 (kq ≤ k1) ∧ Drawn0 w wc)
     case first =>
      have H := HC8.out
      clear HC8
      by_cases c9 : x0_1 < (ji7)
      ·rw [if_pos c9] at H
       have c9b0 : decide (x0_1 < (ji7)) = true := decide_eq_true c9
       clear c9
       (first | rw [c9b0] | (simp only [i64_w, i32_w]; rw [c9b0]) | skip)
       have H' := Ak H
       clear H
       go_wp2
       go_meet
       case rel => exact ⟨_, (decide (x1_1 < (ji7))), (by first | rfl | (simp; done) | (simp only [← hji7] <;> (first | rfl | simp)) | (simp [*]; done)), H', ⟨by have := HK1.out; first | omega | exact Nat.le_refl _⟩, by repeat (first | exact Drawn0.refl _ | apply Drawn0.step)⟩
      ·rw [if_neg c9] at H
       have c9b0 : decide (x0_1 < (ji7)) = false := decide_eq_false c9
       clear c9
       (first | rw [c9b0] | (simp only [i64_w, i32_w]; rw [c9b0]) | skip)
       have H' := Ak H
       clear H
       go_wp2
       go_meet
       case rel => exact ⟨_, (false), (by first | rfl | (simp; done) | (simp [*]; done)), H', ⟨by have := HK1.out; first | omega | exact Nat.le_refl _⟩, by repeat (first | exact Drawn0.refl _ | apply Drawn0.step)⟩
     case rest =>
      clear HC8
      try clear c4b0
      try clear c6b0
      try clear c6b1
      try clear c9b0
      obtain ⟨kq, x33_7, rfl, HA, HJ7, ⟨mc7, rfl⟩⟩ := hcut
      cases kq with
      | zero => exact absurd HA.out (by simp [spec_l10Of.j1])
      | succ kj7 =>
       have H := HA.out
       clear HA
       simp only [spec_l10Of.j1] at H
       by_cases c10 : x33_7 = true
       ·subst c10
        have H1 : (spec_l10Of.l0 kj7 x1_1 x0_1 (wrap64 ((wrap64 (x7_1 * 4)) + 0)) (wrap64 (x8_1 - 1))) = some r := by rw [if_pos rfl] at H; exact H
        clear H
        have H := H1
        clear H1
        have H' := Ak H
        clear H
        go_wp2
        go_roundg kj7
        case measure => have := HK1.out; have := HJ7.out; omega
        case rel => exact ⟨(x1_1), (x0_1), (wrap64 ((wrap64 (x7_1 * 4)) + 0)), (wrap64 (x8_1 - 1)), (by first | rfl | (simp; done) | (simp [*]; done)), (by first | rfl | (simp; done) | (simp [*]; done)), (by first | rfl | (simp; done) | (simp [*]; done)), (by first | rfl | (simp; done) | (simp [*]; done)), H', ⟨by have := HK1.out; have := HJ7.out; omega⟩, by repeat (first | exact Drawn0.refl _ | apply Drawn0.step)⟩
       ·replace c10 := Bool.eq_false_iff.mpr c10
        subst c10
        have H1 : (if x0_1 < ji7 then (spec_l10Of.l0 kj7 x0_1 (wrap64 (x1_1 - ji7)) (wrap64 ((wrap64 (x7_1 * 4)) + 1)) (wrap64 (x8_1 - 1))) else (if x1_1 ≥ ji7 then (spec_l10Of.l0 kj7 (wrap64 (x0_1 - ji7)) (wrap64 (x1_1 - ji7)) (wrap64 ((wrap64 (x7_1 * 4)) + 2)) (wrap64 (x8_1 - 1))) else (spec_l10Of.l0 kj7 (wrap64 ((wrap64 (ji7 - 1)) - x1_1)) (wrap64 ((wrap64 ((wrap64 (2 * ji7)) - 1)) - x0_1)) (wrap64 ((wrap64 (x7_1 * 4)) + 3)) (wrap64 (x8_1 - 1))))) = some r := by rw [if_neg (show ¬ (false = true) by decide)] at H; exact H
        clear H
        have H := H1
        clear H1
        by_cases c11 : x0_1 < ji7
        ·rw [if_pos c11] at H
         have c11b0 : decide (x0_1 < ji7) = true := decide_eq_true c11
         clear c11
         have H' := Ak H
         clear H
         go_wp2
         go_roundg kj7
         case measure => have := HK1.out; have := HJ7.out; omega
         case rel => exact ⟨(x0_1), (wrap64 (x1_1 - ji7)), (wrap64 ((wrap64 (x7_1 * 4)) + 1)), (wrap64 (x8_1 - 1)), (by first | rfl | (simp; done) | (simp [*]; done)), (by first | rfl | (simp; done) | (simp only [← hji7] <;> (first | rfl | simp)) | (simp [*]; done)), (by first | rfl | (simp; done) | (simp [*]; done)), (by first | rfl | (simp; done) | (simp [*]; done)), H', ⟨by have := HK1.out; have := HJ7.out; omega⟩, by repeat (first | exact Drawn0.refl _ | apply Drawn0.step)⟩
        ·rw [if_neg c11] at H
         have c11b0 : decide (x0_1 < ji7) = false := decide_eq_false c11
         clear c11
         by_cases c12 : x1_1 ≥ ji7
         ·rw [if_pos c12] at H
          have c12b0 : decide (ji7 ≤ x1_1) = true := decide_eq_true c12
          clear c12
          have H' := Ak H
          clear H
          go_wp2
          go_roundg kj7
          case measure => have := HK1.out; have := HJ7.out; omega
          case rel => exact ⟨(wrap64 (x0_1 - ji7)), (wrap64 (x1_1 - ji7)), (wrap64 ((wrap64 (x7_1 * 4)) + 2)), (wrap64 (x8_1 - 1)), (by first | rfl | (simp; done) | (simp only [← hji7] <;> (first | rfl | simp)) | (simp [*]; done)), (by first | rfl | (simp; done) | (simp only [← hji7] <;> (first | rfl | simp)) | (simp [*]; done)), (by first | rfl | (simp; done) | (simp [*]; done)), (by first | rfl | (simp; done) | (simp [*]; done)), H', ⟨by have := HK1.out; have := HJ7.out; omega⟩, by repeat (first | exact Drawn0.refl _ | apply Drawn0.step)⟩
         ·rw [if_neg c12] at H
          have c12b0 : decide (ji7 ≤ x1_1) = false := decide_eq_false c12
          clear c12
          have H' := Ak H
          clear H
          go_wp2
          go_roundg kj7
          case measure => have := HK1.out; have := HJ7.out; omega
          case rel => exact ⟨(wrap64 ((wrap64 (ji7 - 1)) - x1_1)), (wrap64 ((wrap64 ((wrap64 (2 * ji7)) - 1)) - x0_1)), (wrap64 ((wrap64 (x7_1 * 4)) + 3)), (wrap64 (x8_1 - 1)), (by first | rfl | (simp; done) | (simp only [← hji7] <;> (first | rfl | simp)) | (simp [*]; done)), (by first | rfl | (simp; done) | (simp only [← hji7] <;> (first | rfl | simp)) | (simp [*]; done)), (by first | rfl | (simp; done) | (simp [*]; done)), (by first | rfl | (simp; done) | (simp [*]; done)), H', ⟨by have := HK1.out; have := HJ7.out; omega⟩, by repeat (first | exact Drawn0.refl _ | apply Drawn0.step)⟩
    ·rw [if_neg c6] at H
     exact absurd H (by simp)
   ·rw [if_neg c4] at H
    have c4b0 : decide (0 < x8_1) = false := decide_eq_false c4
    clear c4
    obtain rfl := Option.some.inj H
    go_wp2
    go_ret
    exact ⟨by first | rfl | (simp; done) | (simp [*]; done), by repeat (first | exact Drawn0.refl _ | apply Drawn0.step)⟩

end Go.Proofs.Ytinilabmffjnaaa.PFnExactCurveSort
