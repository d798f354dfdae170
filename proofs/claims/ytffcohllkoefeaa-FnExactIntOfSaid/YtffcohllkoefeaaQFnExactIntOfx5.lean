/- The functions that the law FnExactIntOf reaches, each with what it computes and its contract. -/
import Derived.Test.YtffcohllkoefeaaQFnExactIntOfx0
import Derived.Test.YtffcohllkoefeaaQFnExactIntOfx3
import Derived.Test.YtffcohllkoefeaaQFnExactIntOfx4
namespace Go.Proofs.Ytffcohllkoefeaa.PFnExactIntOf
open Go.RowKit Go.Proofs.YtffcohllkoefeaaW.PrintWords Go.Proofs.YtffcohllkoefeaaW.PrintLast Go.Proofs.YtffcohllkoefeaaW.PrintMore
attribute [local go_sem] max2_int min2_int max_two min_two max_three min_three max_four min_four   -- for this text's walks alone
set_option linter.unusedVariables false
set_option linter.unusedSimpArgs false

/-! ### spec_IntOf: function 44 -/
def spec_IntOf.j0 : Nat → Int → Int → Int → Option (Int × Bool)
  | 0, _, _, _ => none
  | k + 1, x0, x4, x6 => if (x4 / 9223372036854775808) = 1 then ((spec_FloatOf.f k (wrap64 (-(wrap64 (x6))))).bind fun t109 => (if t109 = x0 then (some (wrap64 (-(wrap64 (x6))), true)) else (some (0, false)))) else ((spec_FloatOf.f k (wrap64 (x6))).bind fun t110 => (if t110 = x0 then (some (wrap64 (x6), true)) else (some (0, false))))
def spec_IntOf.f (k : Nat) (a0 : Int) : Option (Int × Bool) := if (IntKind.u64.wrap ((IntKind.u64.wrap (a0)) * 2)) = 0 then (some (0, true)) else ((spec_l1In.f (wrap64 ((wrap64 (Go.bits .and .u64 ((IntKind.u64.wrap (a0)) / 4503599627370496) 2047)) - 1023)) 0 53).bind fun t108 => (if t108 = true then (if (wrap64 ((wrap64 (Go.bits .and .u64 ((IntKind.u64.wrap (a0)) / 4503599627370496) 2047)) - 1023)) ≤ 52 then (if 0 ≤ (IntKind.u64.wrap (wrap64 (52 - (wrap64 ((wrap64 (Go.bits .and .u64 ((IntKind.u64.wrap (a0)) / 4503599627370496) 2047)) - 1023))))) then (spec_IntOf.j0 k a0 (IntKind.u64.wrap (a0)) (shr .u64 (Go.bits .or .u64 (Go.bits .and .u64 (IntKind.u64.wrap (a0)) 4503599627370495) 4503599627370496) (IntKind.u64.wrap (wrap64 (52 - (wrap64 ((wrap64 (Go.bits .and .u64 ((IntKind.u64.wrap (a0)) / 4503599627370496) 2047)) - 1023))))))) else (none)) else (spec_IntOf.j0 k a0 (IntKind.u64.wrap (a0)) (IntKind.u64.wrap ((Go.bits .or .u64 (Go.bits .and .u64 (IntKind.u64.wrap (a0)) 4503599627370495) 4503599627370496) * 2)))) else (some (0, false))))
theorem spec_IntOf.mono_l : ∀ k, (∀ y0 y1 y2, LeO (spec_IntOf.j0 k y0 y1 y2) (spec_IntOf.j0 (k + 1) y0 y1 y2))
  | 0 => fun _ _ _ r h => by simp [spec_IntOf.j0] at h
  | k + 1 => by
    have ih0 := spec_IntOf.mono_l k
    · intro y0 y1 y2
      unfold spec_IntOf.j0
      repeat' first
      | (with_reducible exact ih0 _ _ _)
      | (with_reducible exact spec_FloatOf.mono _ _)
      | (with_reducible exact LeO.refl _)
      | (with_reducible exact LeO.none _)
      | (with_reducible refine LeO.ite ?_ ?_)
      | (with_reducible refine LeO.bind ?_ (fun _ => ?_))
      | exact ih0 _ _ _
      | exact spec_FloatOf.mono _ _
      | exact LeO.none _
      | refine LeO.ite ?_ ?_
      | refine LeO.bind ?_ (fun _ => ?_)
theorem spec_IntOf.mono : ∀ a0 k, LeO (spec_IntOf.f k a0) (spec_IntOf.f (k + 1) a0) := by
  intro a0 k
  have ih0 := spec_IntOf.mono_l k
  unfold spec_IntOf.f
  repeat' first
      | (with_reducible exact ih0 _ _ _)
      | (with_reducible exact spec_FloatOf.mono _ _)
      | (with_reducible exact LeO.refl _)
      | (with_reducible exact LeO.none _)
      | (with_reducible refine LeO.ite ?_ ?_)
      | (with_reducible refine LeO.bind ?_ (fun _ => ?_))
      | exact ih0 _ _ _
      | exact spec_FloatOf.mono _ _
      | exact LeO.none _
      | refine LeO.ite ?_ ?_
      | refine LeO.bind ?_ (fun _ => ?_)
set_option maxHeartbeats 8000000 in
set_option maxRecDepth 100000 in
theorem spec_IntOf.calls (k : Nat) (a0 : Int) (r1 : Int) (r2 : Bool) (w : World) (h : spec_IntOf.f k a0 = some (r1, r2)) :
    Calls Try.prog 44 #[.int .i64 a0] w fun e w' => e = .returned (.tuple #[.int .i64 r1, .bool r2]) ∧ Drawn0 w w' := by
  have H : (if (IntKind.u64.wrap ((IntKind.u64.wrap (a0)) * 2)) = 0 then (some (0, true)) else ((spec_l1In.f (wrap64 ((wrap64 (Go.bits .and .u64 ((IntKind.u64.wrap (a0)) / 4503599627370496) 2047)) - 1023)) 0 53).bind fun t108 => (if t108 = true then (if (wrap64 ((wrap64 (Go.bits .and .u64 ((IntKind.u64.wrap (a0)) / 4503599627370496) 2047)) - 1023)) ≤ 52 then (if 0 ≤ (IntKind.u64.wrap (wrap64 (52 - (wrap64 ((wrap64 (Go.bits .and .u64 ((IntKind.u64.wrap (a0)) / 4503599627370496) 2047)) - 1023))))) then (spec_IntOf.j0 k a0 (IntKind.u64.wrap (a0)) (shr .u64 (Go.bits .or .u64 (Go.bits .and .u64 (IntKind.u64.wrap (a0)) 4503599627370495) 4503599627370496) (IntKind.u64.wrap (wrap64 (52 - (wrap64 ((wrap64 (Go.bits .and .u64 ((IntKind.u64.wrap (a0)) / 4503599627370496) 2047)) - 1023))))))) else (none)) else (spec_IntOf.j0 k a0 (IntKind.u64.wrap (a0)) (IntKind.u64.wrap ((Go.bits .or .u64 (Go.bits .and .u64 (IntKind.u64.wrap (a0)) 4503599627370495) 4503599627370496) * 2)))) else (some (0, false))))) = some (r1, r2) := h
  clear h
  by_cases c2 : (IntKind.u64.wrap ((IntKind.u64.wrap (a0)) * 2)) = 0
  · rw [if_pos c2] at H
    have c2b0 : ((IntKind.u64.wrap ((IntKind.u64.wrap (a0)) * 2)) == 0) = true := beq_iff_eq.mpr c2
    have c2b1 : ((IntKind.u64.wrap ((IntKind.u64.wrap (a0)) * 2)) != 0) = false := bne_eq_false_iff_eq.mpr c2
    clear c2
    simp only [Option.some.injEq, Prod.mk.injEq] at H
    obtain ⟨rfl, rfl⟩ := H
    go_enter Try.func44, Try.ntmps44
    go_wp2
    go_ret2
    exact ⟨by first | rfl | (simp; done) | (simp [*]; done), by repeat (first | exact Drawn0.refl _ | apply Drawn0.step)⟩
  · rw [if_neg c2] at H
    have c2b0 : ((IntKind.u64.wrap ((IntKind.u64.wrap (a0)) * 2)) == 0) = false := beq_eq_false_iff_ne.mpr c2
    have c2b1 : ((IntKind.u64.wrap ((IntKind.u64.wrap (a0)) * 2)) != 0) = true := bne_iff_ne.mpr c2
    replace H := Option.bind_eq_some_iff.mp H
    obtain ⟨t108, A30, H⟩ := H
    replace H : (if t108 = true then (if (wrap64 ((wrap64 (Go.bits .and .u64 ((IntKind.u64.wrap (a0)) / 4503599627370496) 2047)) - 1023)) ≤ 52 then (if 0 ≤ (IntKind.u64.wrap (wrap64 (52 - (wrap64 ((wrap64 (Go.bits .and .u64 ((IntKind.u64.wrap (a0)) / 4503599627370496) 2047)) - 1023))))) then (spec_IntOf.j0 k a0 (IntKind.u64.wrap (a0)) (shr .u64 (Go.bits .or .u64 (Go.bits .and .u64 (IntKind.u64.wrap (a0)) 4503599627370495) 4503599627370496) (IntKind.u64.wrap (wrap64 (52 - (wrap64 ((wrap64 (Go.bits .and .u64 ((IntKind.u64.wrap (a0)) / 4503599627370496) 2047)) - 1023))))))) else (none)) else (spec_IntOf.j0 k a0 (IntKind.u64.wrap (a0)) (IntKind.u64.wrap ((Go.bits .or .u64 (Go.bits .and .u64 (IntKind.u64.wrap (a0)) 4503599627370495) 4503599627370496) * 2)))) else (some (0, false))) = some (r1, r2) := H
    have A3 := Aside0.mk A30
    clear A30
    by_cases c4 : t108 = true
    · subst c4
      have H1 : (if (wrap64 ((wrap64 (Go.bits .and .u64 ((IntKind.u64.wrap (a0)) / 4503599627370496) 2047)) - 1023)) ≤ 52 then (if 0 ≤ (IntKind.u64.wrap (wrap64 (52 - (wrap64 ((wrap64 (Go.bits .and .u64 ((IntKind.u64.wrap (a0)) / 4503599627370496) 2047)) - 1023))))) then (spec_IntOf.j0 k a0 (IntKind.u64.wrap (a0)) (shr .u64 (Go.bits .or .u64 (Go.bits .and .u64 (IntKind.u64.wrap (a0)) 4503599627370495) 4503599627370496) (IntKind.u64.wrap (wrap64 (52 - (wrap64 ((wrap64 (Go.bits .and .u64 ((IntKind.u64.wrap (a0)) / 4503599627370496) 2047)) - 1023))))))) else (none)) else (spec_IntOf.j0 k a0 (IntKind.u64.wrap (a0)) (IntKind.u64.wrap ((Go.bits .or .u64 (Go.bits .and .u64 (IntKind.u64.wrap (a0)) 4503599627370495) 4503599627370496) * 2)))) = some (r1, r2) := by rw [if_pos rfl] at H; exact H
      clear H
      have H := H1
      clear H1
      have HC5 := Aside0.mk H
      clear H
      go_enter Try.func44, Try.ntmps44
      go_upto_if 25 with (first | ((with_reducible refine gate_callee (f := 50) rfl ?_); refine goesL_ (some 19) rfl rfl Try.func50 (by kernel_rfl) rfl #[.int .i64 (wrap64 ((wrap64 (Go.bits .and .u64 ((IntKind.u64.wrap (a0)) / 4503599627370496) 2047)) - 1023)), .int .i64 0, .int .i64 53] rfl (by (try simp only [List.map_toArray, List.map_cons, List.map_nil]); first | done | rfl | (simp only [List.length_drop, List.length_take]; rfl)) ?_; (with_reducible refine (spec_l1In.calls (wrap64 ((wrap64 (Go.bits .and .u64 ((IntKind.u64.wrap (a0)) / 4503599627370496) 2047)) - 1023)) 0 53 true _ A3.out).mono ?_); rintro e w' ⟨rfl, ⟨nd, rfl⟩⟩; refine ⟨_, rfl, ?_⟩))
      (try simp only [Act.put, List.setIfInBounds_toArray, List.set_cons_zero, List.set_cons_succ])
      go_cut [6] (fun v6 wc => ∃ (kq : Nat) (x6_4 : Int), v6 = .int .u64 x6_4 ∧ Aside0 (spec_IntOf.j0 kq a0 (IntKind.u64.wrap (a0)) x6_4 = some (r1, r2)) ∧ Aside0 (kq ≤ k) ∧ Drawn0 w wc)
      case first =>
        have H := HC5.out
        clear HC5
        by_cases c6 : (wrap64 ((wrap64 (Go.bits .and .u64 ((IntKind.u64.wrap (a0)) / 4503599627370496) 2047)) - 1023)) ≤ 52
        · rw [if_pos c6] at H
          have c6b0 : decide ((wrap64 ((wrap64 (Go.bits .and .u64 ((IntKind.u64.wrap (a0)) / 4503599627370496) 2047)) - 1023)) ≤ 52) = true := decide_eq_true c6
          clear c6
          (first | rw [c6b0] | (simp only [i64_w, i32_w]; rw [c6b0]) | skip)
          obtain ⟨ji7, hji7⟩ : ∃ j_ : Int, (IntKind.u64.wrap (wrap64 (52 - (wrap64 ((wrap64 (Go.bits .and .u64 ((IntKind.u64.wrap (a0)) / 4503599627370496) 2047)) - 1023))))) = j_ := ⟨_, rfl⟩
          replace H : (if 0 ≤ (ji7) then (spec_IntOf.j0 k a0 (IntKind.u64.wrap (a0)) (shr .u64 (Go.bits .or .u64 (Go.bits .and .u64 (IntKind.u64.wrap (a0)) 4503599627370495) 4503599627370496) (ji7))) else (none)) = some (r1, r2) := by first | (rw [hji7] at H; exact H) | (simp only [hji7] at H ⊢; exact H)
          by_cases c8 : 0 ≤ (ji7)
          · rw [if_pos c8] at H
            have c8b0 := eq_true c8
            have c8b1 : decide (0 ≤ (ji7)) = true := decide_eq_true c8
            clear c8
            obtain ⟨ji9, hji9⟩ : ∃ j_ : Int, (shr .u64 (Go.bits .or .u64 (Go.bits .and .u64 (IntKind.u64.wrap (a0)) 4503599627370495) 4503599627370496) (ji7)) = j_ := ⟨_, rfl⟩
            replace H : (spec_IntOf.j0 k a0 (IntKind.u64.wrap (a0)) ji9) = some (r1, r2) := by first | (rw [hji9] at H; exact H) | (simp only [hji9] at H ⊢; exact H)
            have hji9_ : ((Go.bits .or .u64 (Go.bits .and .u64 (IntKind.u64.wrap (a0)) 4503599627370495) 4503599627370496) / 2 ^ min (ji7).toNat 64) = ji9 := hji9
            have hji9z : (ji7) ≤ 64 → ((Go.bits .or .u64 (Go.bits .and .u64 (IntKind.u64.wrap (a0)) 4503599627370495) 4503599627370496) / 2 ^ (ji7).toNat) = ji9 := shr_small hji9
            have H' := Aside0.mk H
            clear H
            go_wp2
            go_meet
            case rel => exact ⟨_, (ji9), (by first | rfl | (simp; done) | (simp only [← hji9] <;> (first | rfl | simp)) | (simp [*]; done)), H', ⟨by first | omega | exact Nat.le_refl _⟩, by repeat (first | exact Drawn0.refl _ | apply Drawn0.step)⟩
          · rw [if_neg c8] at H
            exact absurd H (by simp)
        · rw [if_neg c6] at H
          have c6b0 : decide ((wrap64 ((wrap64 (Go.bits .and .u64 ((IntKind.u64.wrap (a0)) / 4503599627370496) 2047)) - 1023)) ≤ 52) = false := decide_eq_false c6
          clear c6
          (first | rw [c6b0] | (simp only [i64_w, i32_w]; rw [c6b0]) | skip)
          have H' := Aside0.mk H
          clear H
          go_wp2
          go_meet
          case rel => exact ⟨_, (IntKind.u64.wrap ((Go.bits .or .u64 (Go.bits .and .u64 (IntKind.u64.wrap (a0)) 4503599627370495) 4503599627370496) * 2)), (by first | rfl | (simp; done) | (simp [*]; done)), H', ⟨by first | omega | exact Nat.le_refl _⟩, by repeat (first | exact Drawn0.refl _ | apply Drawn0.step)⟩
      case rest =>
        clear HC5
        try clear c2
        try clear c2b0
        try clear c2b1
        try clear p2
        try clear c4
        try clear c5
        try clear c6
        try clear c6b0
        try clear p6
        try clear c8
        try clear c8b0
        try clear c8b1
        obtain ⟨kq, x6_4, rfl, HA, HJ4, ⟨mc4, rfl⟩⟩ := hcut
        cases kq with
        | zero => exact absurd HA.out (by simp [spec_IntOf.j0])
        | succ kj4 =>
          have H := HA.out
          clear HA
          simp only [spec_IntOf.j0] at H
          by_cases c10 : ((IntKind.u64.wrap (a0)) / 9223372036854775808) = 1
          · rw [if_pos c10] at H
            have c10b0 : (((IntKind.u64.wrap (a0)) / 9223372036854775808) == 1) = true := beq_iff_eq.mpr c10
            have c10b1 : (((IntKind.u64.wrap (a0)) / 9223372036854775808) != 1) = false := bne_eq_false_iff_eq.mpr c10
            clear c10
            replace H := Option.bind_eq_some_iff.mp H
            obtain ⟨t109, A110, H⟩ := H
            replace H : (if t109 = a0 then (some (wrap64 (-(wrap64 (x6_4))), true)) else (some (0, false))) = some (r1, r2) := H
            have A11 := Aside0.mk A110
            clear A110
            by_cases c12 : t109 = a0
            · rw [if_pos c12] at H
              have c12b0 : (t109 == a0) = true := beq_iff_eq.mpr c12
              have c12b1 : (t109 != a0) = false := bne_eq_false_iff_eq.mpr c12
              clear c12
              simp only [Option.some.injEq, Prod.mk.injEq] at H
              obtain ⟨rfl, rfl⟩ := H
              go_wp2_with (first | ((with_reducible refine gate_callee (f := 15) rfl ?_); refine goesL_ (some 41) rfl rfl Try.func15 (by kernel_rfl) rfl #[.int .i64 (wrap64 (-(wrap64 (x6_4))))] rfl (by (try simp only [List.map_toArray, List.map_cons, List.map_nil]); first | done | rfl | (simp only [List.length_drop, List.length_take]; rfl)) ?_; (with_reducible refine (spec_FloatOf.calls kj4 (wrap64 (-(wrap64 (x6_4)))) t109 _ A11.out).mono ?_); rintro e w' ⟨rfl, ⟨nd, rfl⟩⟩; refine ⟨_, rfl, ?_⟩))
              go_ret2
              exact ⟨by first | rfl | (simp; done) | (simp [*]; done), by repeat (first | exact Drawn0.refl _ | apply Drawn0.step)⟩
            · rw [if_neg c12] at H
              have c12b0 : (t109 == a0) = false := beq_eq_false_iff_ne.mpr c12
              have c12b1 : (t109 != a0) = true := bne_iff_ne.mpr c12
              simp only [Option.some.injEq, Prod.mk.injEq] at H
              obtain ⟨rfl, rfl⟩ := H
              go_wp2_with (first | ((with_reducible refine gate_callee (f := 15) rfl ?_); refine goesL_ (some 41) rfl rfl Try.func15 (by kernel_rfl) rfl #[.int .i64 (wrap64 (-(wrap64 (x6_4))))] rfl (by (try simp only [List.map_toArray, List.map_cons, List.map_nil]); first | done | rfl | (simp only [List.length_drop, List.length_take]; rfl)) ?_; (with_reducible refine (spec_FloatOf.calls kj4 (wrap64 (-(wrap64 (x6_4)))) t109 _ A11.out).mono ?_); rintro e w' ⟨rfl, ⟨nd, rfl⟩⟩; refine ⟨_, rfl, ?_⟩))
              go_ret2
              exact ⟨by first | rfl | (simp; done) | (simp [*]; done), by repeat (first | exact Drawn0.refl _ | apply Drawn0.step)⟩
          · rw [if_neg c10] at H
            have c10b0 : (((IntKind.u64.wrap (a0)) / 9223372036854775808) == 1) = false := beq_eq_false_iff_ne.mpr c10
            have c10b1 : (((IntKind.u64.wrap (a0)) / 9223372036854775808) != 1) = true := bne_iff_ne.mpr c10
            replace H := Option.bind_eq_some_iff.mp H
            obtain ⟨t110, A130, H⟩ := H
            replace H : (if t110 = a0 then (some (wrap64 (x6_4), true)) else (some (0, false))) = some (r1, r2) := H
            have A13 := Aside0.mk A130
            clear A130
            by_cases c14 : t110 = a0
            · rw [if_pos c14] at H
              have c14b0 : (t110 == a0) = true := beq_iff_eq.mpr c14
              have c14b1 : (t110 != a0) = false := bne_eq_false_iff_eq.mpr c14
              clear c14
              simp only [Option.some.injEq, Prod.mk.injEq] at H
              obtain ⟨rfl, rfl⟩ := H
              go_wp2_with (first | ((with_reducible refine gate_callee (f := 15) rfl ?_); refine goesL_ (some 41) rfl rfl Try.func15 (by kernel_rfl) rfl #[.int .i64 (wrap64 (x6_4))] rfl (by (try simp only [List.map_toArray, List.map_cons, List.map_nil]); first | done | rfl | (simp only [List.length_drop, List.length_take]; rfl)) ?_; (with_reducible refine (spec_FloatOf.calls kj4 (wrap64 (x6_4)) t110 _ A13.out).mono ?_); rintro e w' ⟨rfl, ⟨nd, rfl⟩⟩; refine ⟨_, rfl, ?_⟩))
              go_ret2
              exact ⟨by first | rfl | (simp; done) | (simp [*]; done), by repeat (first | exact Drawn0.refl _ | apply Drawn0.step)⟩
            · rw [if_neg c14] at H
              have c14b0 : (t110 == a0) = false := beq_eq_false_iff_ne.mpr c14
              have c14b1 : (t110 != a0) = true := bne_iff_ne.mpr c14
              simp only [Option.some.injEq, Prod.mk.injEq] at H
              obtain ⟨rfl, rfl⟩ := H
              go_wp2_with (first | ((with_reducible refine gate_callee (f := 15) rfl ?_); refine goesL_ (some 41) rfl rfl Try.func15 (by kernel_rfl) rfl #[.int .i64 (wrap64 (x6_4))] rfl (by (try simp only [List.map_toArray, List.map_cons, List.map_nil]); first | done | rfl | (simp only [List.length_drop, List.length_take]; rfl)) ?_; (with_reducible refine (spec_FloatOf.calls kj4 (wrap64 (x6_4)) t110 _ A13.out).mono ?_); rintro e w' ⟨rfl, ⟨nd, rfl⟩⟩; refine ⟨_, rfl, ?_⟩))
              go_ret2
              exact ⟨by first | rfl | (simp; done) | (simp [*]; done), by repeat (first | exact Drawn0.refl _ | apply Drawn0.step)⟩
    · replace c4 := Bool.eq_false_iff.mpr c4
      subst c4
      have H1 : (some (0, false)) = some (r1, r2) := by rw [if_neg (show ¬ (false = true) by decide)] at H; exact H
      clear H
      have H := H1
      clear H1
      simp only [Option.some.injEq, Prod.mk.injEq] at H
      obtain ⟨rfl, rfl⟩ := H
      go_enter Try.func44, Try.ntmps44
      go_wp2_with (first | ((with_reducible refine gate_callee (f := 50) rfl ?_); refine goesL_ (some 19) rfl rfl Try.func50 (by kernel_rfl) rfl #[.int .i64 (wrap64 ((wrap64 (Go.bits .and .u64 ((IntKind.u64.wrap (a0)) / 4503599627370496) 2047)) - 1023)), .int .i64 0, .int .i64 53] rfl (by (try simp only [List.map_toArray, List.map_cons, List.map_nil]); first | done | rfl | (simp only [List.length_drop, List.length_take]; rfl)) ?_; (with_reducible refine (spec_l1In.calls (wrap64 ((wrap64 (Go.bits .and .u64 ((IntKind.u64.wrap (a0)) / 4503599627370496) 2047)) - 1023)) 0 53 false _ A3.out).mono ?_); rintro e w' ⟨rfl, ⟨nd, rfl⟩⟩; refine ⟨_, rfl, ?_⟩))
      go_ret2
      exact ⟨by first | rfl | (simp; done) | (simp [*]; done), by repeat (first | exact Drawn0.refl _ | apply Drawn0.step)⟩

end Go.Proofs.Ytffcohllkoefeaa.PFnExactIntOf
