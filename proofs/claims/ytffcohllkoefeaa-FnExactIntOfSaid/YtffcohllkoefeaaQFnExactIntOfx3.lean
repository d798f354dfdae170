/- The functions that the law FnExactIntOf reaches, each with what it computes and its contract. -/
import Derived.Test.YtffcohllkoefeaaQFnExactIntOfx0
import Derived.Test.YtffcohllkoefeaaQFnExactIntOfx1
import Derived.Test.YtffcohllkoefeaaQFnExactIntOfx2
namespace Go.Proofs.Ytffcohllkoefeaa.PFnExactIntOf
open Go.RowKit Go.Proofs.YtffcohllkoefeaaW.PrintWords Go.Proofs.YtffcohllkoefeaaW.PrintLast Go.Proofs.YtffcohllkoefeaaW.PrintMore
attribute [local go_sem] max2_int min2_int max_two min_two max_three min_three max_four min_four   -- for this text's walks alone
set_option linter.unusedVariables false
set_option linter.unusedSimpArgs false

/-! ### impl_IntOf: function 37 -/
def impl_IntOf.f (k : Nat) (a0 : Int) : Option (Int × Bool) := if (IntKind.u64.wrap ((IntKind.u64.wrap (a0)) * 2)) = 0 then (some (0, true)) else ((impl_inRange.f (wrap64 ((wrap64 (Go.bits .and .u64 ((IntKind.u64.wrap (a0)) / 4503599627370496) 2047)) - 1023)) 0 53).bind fun t104 => (if t104 = true then (if 0 ≤ (IntKind.u64.wrap (wrap64 (53 - (wrap64 ((wrap64 (Go.bits .and .u64 ((IntKind.u64.wrap (a0)) / 4503599627370496) 2047)) - 1023))))) then (if ((IntKind.u64.wrap (a0)) / 9223372036854775808) = 1 then ((impl_FloatOf.f k (wrap64 (-(wrap64 (shr .u64 (IntKind.u64.wrap ((Go.bits .or .u64 (Go.bits .and .u64 (IntKind.u64.wrap (a0)) 4503599627370495) 4503599627370496) * 2)) (IntKind.u64.wrap (wrap64 (53 - (wrap64 ((wrap64 (Go.bits .and .u64 ((IntKind.u64.wrap (a0)) / 4503599627370496) 2047)) - 1023)))))))))).bind fun t105 => (if t105 = a0 then (some (wrap64 (-(wrap64 (shr .u64 (IntKind.u64.wrap ((Go.bits .or .u64 (Go.bits .and .u64 (IntKind.u64.wrap (a0)) 4503599627370495) 4503599627370496) * 2)) (IntKind.u64.wrap (wrap64 (53 - (wrap64 ((wrap64 (Go.bits .and .u64 ((IntKind.u64.wrap (a0)) / 4503599627370496) 2047)) - 1023)))))))), true)) else (some (0, false)))) else ((impl_FloatOf.f k (wrap64 (shr .u64 (IntKind.u64.wrap ((Go.bits .or .u64 (Go.bits .and .u64 (IntKind.u64.wrap (a0)) 4503599627370495) 4503599627370496) * 2)) (IntKind.u64.wrap (wrap64 (53 - (wrap64 ((wrap64 (Go.bits .and .u64 ((IntKind.u64.wrap (a0)) / 4503599627370496) 2047)) - 1023)))))))).bind fun t106 => (if t106 = a0 then (some (wrap64 (shr .u64 (IntKind.u64.wrap ((Go.bits .or .u64 (Go.bits .and .u64 (IntKind.u64.wrap (a0)) 4503599627370495) 4503599627370496) * 2)) (IntKind.u64.wrap (wrap64 (53 - (wrap64 ((wrap64 (Go.bits .and .u64 ((IntKind.u64.wrap (a0)) / 4503599627370496) 2047)) - 1023)))))), true)) else (some (0, false))))) else (none)) else (some (0, false))))
theorem impl_IntOf.mono : ∀ a0 k, LeO (impl_IntOf.f k a0) (impl_IntOf.f (k + 1) a0) := by
  intro a0 k
  unfold impl_IntOf.f
  repeat' first
      | (with_reducible exact impl_FloatOf.mono _ _)
      | (with_reducible exact LeO.refl _)
      | (with_reducible exact LeO.none _)
      | (with_reducible refine LeO.ite ?_ ?_)
      | (with_reducible refine LeO.bind ?_ (fun _ => ?_))
      | exact impl_FloatOf.mono _ _
      | exact LeO.none _
      | refine LeO.ite ?_ ?_
      | refine LeO.bind ?_ (fun _ => ?_)
set_option maxHeartbeats 8000000 in
set_option maxRecDepth 100000 in
theorem impl_IntOf.calls (k : Nat) (a0 : Int) (r1 : Int) (r2 : Bool) (w : World) (h : impl_IntOf.f k a0 = some (r1, r2)) :
    Calls Try.prog 37 #[.int .i64 a0] w fun e w' => e = .returned (.tuple #[.int .i64 r1, .bool r2]) ∧ Drawn0 w w' := by
  have H : (if (IntKind.u64.wrap ((IntKind.u64.wrap (a0)) * 2)) = 0 then (some (0, true)) else ((impl_inRange.f (wrap64 ((wrap64 (Go.bits .and .u64 ((IntKind.u64.wrap (a0)) / 4503599627370496) 2047)) - 1023)) 0 53).bind fun t104 => (if t104 = true then (if 0 ≤ (IntKind.u64.wrap (wrap64 (53 - (wrap64 ((wrap64 (Go.bits .and .u64 ((IntKind.u64.wrap (a0)) / 4503599627370496) 2047)) - 1023))))) then (if ((IntKind.u64.wrap (a0)) / 9223372036854775808) = 1 then ((impl_FloatOf.f k (wrap64 (-(wrap64 (shr .u64 (IntKind.u64.wrap ((Go.bits .or .u64 (Go.bits .and .u64 (IntKind.u64.wrap (a0)) 4503599627370495) 4503599627370496) * 2)) (IntKind.u64.wrap (wrap64 (53 - (wrap64 ((wrap64 (Go.bits .and .u64 ((IntKind.u64.wrap (a0)) / 4503599627370496) 2047)) - 1023)))))))))).bind fun t105 => (if t105 = a0 then (some (wrap64 (-(wrap64 (shr .u64 (IntKind.u64.wrap ((Go.bits .or .u64 (Go.bits .and .u64 (IntKind.u64.wrap (a0)) 4503599627370495) 4503599627370496) * 2)) (IntKind.u64.wrap (wrap64 (53 - (wrap64 ((wrap64 (Go.bits .and .u64 ((IntKind.u64.wrap (a0)) / 4503599627370496) 2047)) - 1023)))))))), true)) else (some (0, false)))) else ((impl_FloatOf.f k (wrap64 (shr .u64 (IntKind.u64.wrap ((Go.bits .or .u64 (Go.bits .and .u64 (IntKind.u64.wrap (a0)) 4503599627370495) 4503599627370496) * 2)) (IntKind.u64.wrap (wrap64 (53 - (wrap64 ((wrap64 (Go.bits .and .u64 ((IntKind.u64.wrap (a0)) / 4503599627370496) 2047)) - 1023)))))))).bind fun t106 => (if t106 = a0 then (some (wrap64 (shr .u64 (IntKind.u64.wrap ((Go.bits .or .u64 (Go.bits .and .u64 (IntKind.u64.wrap (a0)) 4503599627370495) 4503599627370496) * 2)) (IntKind.u64.wrap (wrap64 (53 - (wrap64 ((wrap64 (Go.bits .and .u64 ((IntKind.u64.wrap (a0)) / 4503599627370496) 2047)) - 1023)))))), true)) else (some (0, false))))) else (none)) else (some (0, false))))) = some (r1, r2) := h
  clear h
  by_cases c2 : (IntKind.u64.wrap ((IntKind.u64.wrap (a0)) * 2)) = 0
  · rw [if_pos c2] at H
    have c2b0 : ((IntKind.u64.wrap ((IntKind.u64.wrap (a0)) * 2)) == 0) = true := beq_iff_eq.mpr c2
    have c2b1 : ((IntKind.u64.wrap ((IntKind.u64.wrap (a0)) * 2)) != 0) = false := bne_eq_false_iff_eq.mpr c2
    clear c2
    simp only [Option.some.injEq, Prod.mk.injEq] at H
    obtain ⟨rfl, rfl⟩ := H
    go_enter Try.func37, Try.ntmps37
    go_wp2
    go_ret2
    exact ⟨by first | rfl | (simp; done) | (simp [*]; done), by repeat (first | exact Drawn0.refl _ | apply Drawn0.step)⟩
  · rw [if_neg c2] at H
    have c2b0 : ((IntKind.u64.wrap ((IntKind.u64.wrap (a0)) * 2)) == 0) = false := beq_eq_false_iff_ne.mpr c2
    have c2b1 : ((IntKind.u64.wrap ((IntKind.u64.wrap (a0)) * 2)) != 0) = true := bne_iff_ne.mpr c2
    replace H := Option.bind_eq_some_iff.mp H
    obtain ⟨t104, A30, H⟩ := H
    replace H : (if t104 = true then (if 0 ≤ (IntKind.u64.wrap (wrap64 (53 - (wrap64 ((wrap64 (Go.bits .and .u64 ((IntKind.u64.wrap (a0)) / 4503599627370496) 2047)) - 1023))))) then (if ((IntKind.u64.wrap (a0)) / 9223372036854775808) = 1 then ((impl_FloatOf.f k (wrap64 (-(wrap64 (shr .u64 (IntKind.u64.wrap ((Go.bits .or .u64 (Go.bits .and .u64 (IntKind.u64.wrap (a0)) 4503599627370495) 4503599627370496) * 2)) (IntKind.u64.wrap (wrap64 (53 - (wrap64 ((wrap64 (Go.bits .and .u64 ((IntKind.u64.wrap (a0)) / 4503599627370496) 2047)) - 1023)))))))))).bind fun t105 => (if t105 = a0 then (some (wrap64 (-(wrap64 (shr .u64 (IntKind.u64.wrap ((Go.bits .or .u64 (Go.bits .and .u64 (IntKind.u64.wrap (a0)) 4503599627370495) 4503599627370496) * 2)) (IntKind.u64.wrap (wrap64 (53 - (wrap64 ((wrap64 (Go.bits .and .u64 ((IntKind.u64.wrap (a0)) / 4503599627370496) 2047)) - 1023)))))))), true)) else (some (0, false)))) else ((impl_FloatOf.f k (wrap64 (shr .u64 (IntKind.u64.wrap ((Go.bits .or .u64 (Go.bits .and .u64 (IntKind.u64.wrap (a0)) 4503599627370495) 4503599627370496) * 2)) (IntKind.u64.wrap (wrap64 (53 - (wrap64 ((wrap64 (Go.bits .and .u64 ((IntKind.u64.wrap (a0)) / 4503599627370496) 2047)) - 1023)))))))).bind fun t106 => (if t106 = a0 then (some (wrap64 (shr .u64 (IntKind.u64.wrap ((Go.bits .or .u64 (Go.bits .and .u64 (IntKind.u64.wrap (a0)) 4503599627370495) 4503599627370496) * 2)) (IntKind.u64.wrap (wrap64 (53 - (wrap64 ((wrap64 (Go.bits .and .u64 ((IntKind.u64.wrap (a0)) / 4503599627370496) 2047)) - 1023)))))), true)) else (some (0, false))))) else (none)) else (some (0, false))) = some (r1, r2) := H
    have A3 := Aside0.mk A30
    clear A30
    by_cases c4 : t104 = true
    · subst c4
      have H1 : (if 0 ≤ (IntKind.u64.wrap (wrap64 (53 - (wrap64 ((wrap64 (Go.bits .and .u64 ((IntKind.u64.wrap (a0)) / 4503599627370496) 2047)) - 1023))))) then (if ((IntKind.u64.wrap (a0)) / 9223372036854775808) = 1 then ((impl_FloatOf.f k (wrap64 (-(wrap64 (shr .u64 (IntKind.u64.wrap ((Go.bits .or .u64 (Go.bits .and .u64 (IntKind.u64.wrap (a0)) 4503599627370495) 4503599627370496) * 2)) (IntKind.u64.wrap (wrap64 (53 - (wrap64 ((wrap64 (Go.bits .and .u64 ((IntKind.u64.wrap (a0)) / 4503599627370496) 2047)) - 1023)))))))))).bind fun t105 => (if t105 = a0 then (some (wrap64 (-(wrap64 (shr .u64 (IntKind.u64.wrap ((Go.bits .or .u64 (Go.bits .and .u64 (IntKind.u64.wrap (a0)) 4503599627370495) 4503599627370496) * 2)) (IntKind.u64.wrap (wrap64 (53 - (wrap64 ((wrap64 (Go.bits .and .u64 ((IntKind.u64.wrap (a0)) / 4503599627370496) 2047)) - 1023)))))))), true)) else (some (0, false)))) else ((impl_FloatOf.f k (wrap64 (shr .u64 (IntKind.u64.wrap ((Go.bits .or .u64 (Go.bits .and .u64 (IntKind.u64.wrap (a0)) 4503599627370495) 4503599627370496) * 2)) (IntKind.u64.wrap (wrap64 (53 - (wrap64 ((wrap64 (Go.bits .and .u64 ((IntKind.u64.wrap (a0)) / 4503599627370496) 2047)) - 1023)))))))).bind fun t106 => (if t106 = a0 then (some (wrap64 (shr .u64 (IntKind.u64.wrap ((Go.bits .or .u64 (Go.bits .and .u64 (IntKind.u64.wrap (a0)) 4503599627370495) 4503599627370496) * 2)) (IntKind.u64.wrap (wrap64 (53 - (wrap64 ((wrap64 (Go.bits .and .u64 ((IntKind.u64.wrap (a0)) / 4503599627370496) 2047)) - 1023)))))), true)) else (some (0, false))))) else (none)) = some (r1, r2) := by rw [if_pos rfl] at H; exact H
      clear H
      have H := H1
      clear H1
      obtain ⟨ji5, hji5⟩ : ∃ j_ : Int, (IntKind.u64.wrap (wrap64 (53 - (wrap64 ((wrap64 (Go.bits .and .u64 ((IntKind.u64.wrap (a0)) / 4503599627370496) 2047)) - 1023))))) = j_ := ⟨_, rfl⟩
      replace H : (if 0 ≤ (ji5) then (if ((IntKind.u64.wrap (a0)) / 9223372036854775808) = 1 then ((impl_FloatOf.f k (wrap64 (-(wrap64 (shr .u64 (IntKind.u64.wrap ((Go.bits .or .u64 (Go.bits .and .u64 (IntKind.u64.wrap (a0)) 4503599627370495) 4503599627370496) * 2)) (ji5)))))).bind fun t105 => (if t105 = a0 then (some (wrap64 (-(wrap64 (shr .u64 (IntKind.u64.wrap ((Go.bits .or .u64 (Go.bits .and .u64 (IntKind.u64.wrap (a0)) 4503599627370495) 4503599627370496) * 2)) (ji5)))), true)) else (some (0, false)))) else ((impl_FloatOf.f k (wrap64 (shr .u64 (IntKind.u64.wrap ((Go.bits .or .u64 (Go.bits .and .u64 (IntKind.u64.wrap (a0)) 4503599627370495) 4503599627370496) * 2)) (ji5)))).bind fun t106 => (if t106 = a0 then (some (wrap64 (shr .u64 (IntKind.u64.wrap ((Go.bits .or .u64 (Go.bits .and .u64 (IntKind.u64.wrap (a0)) 4503599627370495) 4503599627370496) * 2)) (ji5)), true)) else (some (0, false))))) else (none)) = some (r1, r2) := by first | (rw [hji5] at H; exact H) | (simp only [hji5] at H ⊢; exact H)
      (try rw [hji5] at A3)
      by_cases c6 : 0 ≤ (ji5)
      · rw [if_pos c6] at H
        have c6b0 := eq_true c6
        have c6b1 : decide (0 ≤ (ji5)) = true := decide_eq_true c6
        clear c6
        obtain ⟨ji7, hji7⟩ : ∃ j_ : Int, (shr .u64 (IntKind.u64.wrap ((Go.bits .or .u64 (Go.bits .and .u64 (IntKind.u64.wrap (a0)) 4503599627370495) 4503599627370496) * 2)) (ji5)) = j_ := ⟨_, rfl⟩
        replace H : (if ((IntKind.u64.wrap (a0)) / 9223372036854775808) = 1 then ((impl_FloatOf.f k (wrap64 (-(wrap64 (ji7))))).bind fun t105 => (if t105 = a0 then (some (wrap64 (-(wrap64 (ji7))), true)) else (some (0, false)))) else ((impl_FloatOf.f k (wrap64 (ji7))).bind fun t106 => (if t106 = a0 then (some (wrap64 (ji7), true)) else (some (0, false))))) = some (r1, r2) := by first | (rw [hji7] at H; exact H) | (simp only [hji7] at H ⊢; exact H)
        (try rw [hji7] at A3)
        have hji7_ : ((IntKind.u64.wrap ((Go.bits .or .u64 (Go.bits .and .u64 (IntKind.u64.wrap (a0)) 4503599627370495) 4503599627370496) * 2)) / 2 ^ min (ji5).toNat 64) = ji7 := hji7
        have hji7z : (ji5) ≤ 64 → ((IntKind.u64.wrap ((Go.bits .or .u64 (Go.bits .and .u64 (IntKind.u64.wrap (a0)) 4503599627370495) 4503599627370496) * 2)) / 2 ^ (ji5).toNat) = ji7 := shr_small hji7
        by_cases c8 : ((IntKind.u64.wrap (a0)) / 9223372036854775808) = 1
        · rw [if_pos c8] at H
          have c8b0 : (((IntKind.u64.wrap (a0)) / 9223372036854775808) == 1) = true := beq_iff_eq.mpr c8
          have c8b1 : (((IntKind.u64.wrap (a0)) / 9223372036854775808) != 1) = false := bne_eq_false_iff_eq.mpr c8
          clear c8
          replace H := Option.bind_eq_some_iff.mp H
          obtain ⟨t105, A90, H⟩ := H
          replace H : (if t105 = a0 then (some (wrap64 (-(wrap64 (ji7))), true)) else (some (0, false))) = some (r1, r2) := H
          have A9 := Aside0.mk A90
          clear A90
          by_cases c10 : t105 = a0
          · rw [if_pos c10] at H
            have c10b0 : (t105 == a0) = true := beq_iff_eq.mpr c10
            have c10b1 : (t105 != a0) = false := bne_eq_false_iff_eq.mpr c10
            clear c10
            simp only [Option.some.injEq, Prod.mk.injEq] at H
            obtain ⟨rfl, rfl⟩ := H
            go_enter Try.func37, Try.ntmps37
            go_wp2_with (first | ((with_reducible refine gate_callee (f := 51) rfl ?_); refine goesL_ (some 18) rfl rfl Try.func51 (by kernel_rfl) rfl #[.int .i64 (wrap64 ((wrap64 (Go.bits .and .u64 ((IntKind.u64.wrap (a0)) / 4503599627370496) 2047)) - 1023)), .int .i64 0, .int .i64 53] rfl (by (try simp only [List.map_toArray, List.map_cons, List.map_nil]); first | done | rfl | (simp only [List.length_drop, List.length_take]; rfl)) ?_; (with_reducible refine (impl_inRange.calls (wrap64 ((wrap64 (Go.bits .and .u64 ((IntKind.u64.wrap (a0)) / 4503599627370496) 2047)) - 1023)) 0 53 true _ A3.out).mono ?_); rintro e w' ⟨rfl, ⟨nd, rfl⟩⟩; refine ⟨_, rfl, ?_⟩) | ((with_reducible refine gate_callee (f := 16) rfl ?_); refine goesL_ (some 35) rfl rfl Try.func16 (by kernel_rfl) rfl #[.int .i64 (wrap64 (-(wrap64 (ji7))))] rfl (by (try simp only [List.map_toArray, List.map_cons, List.map_nil]); first | done | (simp only [hji7]; rfl) | rfl | (simp only [List.length_drop, List.length_take]; rfl)) ?_; (with_reducible refine (impl_FloatOf.calls k (wrap64 (-(wrap64 (ji7)))) t105 _ A9.out).mono ?_); rintro e w' ⟨rfl, ⟨nd, rfl⟩⟩; refine ⟨_, rfl, ?_⟩))
            go_ret2
            exact ⟨by first | rfl | (simp; done) | (simp only [← hji5, ← hji7] <;> (first | rfl | simp)) | (simp [*]; done), by repeat (first | exact Drawn0.refl _ | apply Drawn0.step)⟩
          · rw [if_neg c10] at H
            have c10b0 : (t105 == a0) = false := beq_eq_false_iff_ne.mpr c10
            have c10b1 : (t105 != a0) = true := bne_iff_ne.mpr c10
            simp only [Option.some.injEq, Prod.mk.injEq] at H
            obtain ⟨rfl, rfl⟩ := H
            go_enter Try.func37, Try.ntmps37
            go_wp2_with (first | ((with_reducible refine gate_callee (f := 51) rfl ?_); refine goesL_ (some 18) rfl rfl Try.func51 (by kernel_rfl) rfl #[.int .i64 (wrap64 ((wrap64 (Go.bits .and .u64 ((IntKind.u64.wrap (a0)) / 4503599627370496) 2047)) - 1023)), .int .i64 0, .int .i64 53] rfl (by (try simp only [List.map_toArray, List.map_cons, List.map_nil]); first | done | rfl | (simp only [List.length_drop, List.length_take]; rfl)) ?_; (with_reducible refine (impl_inRange.calls (wrap64 ((wrap64 (Go.bits .and .u64 ((IntKind.u64.wrap (a0)) / 4503599627370496) 2047)) - 1023)) 0 53 true _ A3.out).mono ?_); rintro e w' ⟨rfl, ⟨nd, rfl⟩⟩; refine ⟨_, rfl, ?_⟩) | ((with_reducible refine gate_callee (f := 16) rfl ?_); refine goesL_ (some 35) rfl rfl Try.func16 (by kernel_rfl) rfl #[.int .i64 (wrap64 (-(wrap64 (ji7))))] rfl (by (try simp only [List.map_toArray, List.map_cons, List.map_nil]); first | done | (simp only [hji7]; rfl) | rfl | (simp only [List.length_drop, List.length_take]; rfl)) ?_; (with_reducible refine (impl_FloatOf.calls k (wrap64 (-(wrap64 (ji7)))) t105 _ A9.out).mono ?_); rintro e w' ⟨rfl, ⟨nd, rfl⟩⟩; refine ⟨_, rfl, ?_⟩))
            go_ret2
            exact ⟨by first | rfl | (simp; done) | (simp only [← hji5, ← hji7] <;> (first | rfl | simp)) | (simp [*]; done), by repeat (first | exact Drawn0.refl _ | apply Drawn0.step)⟩
        · rw [if_neg c8] at H
          have c8b0 : (((IntKind.u64.wrap (a0)) / 9223372036854775808) == 1) = false := beq_eq_false_iff_ne.mpr c8
          have c8b1 : (((IntKind.u64.wrap (a0)) / 9223372036854775808) != 1) = true := bne_iff_ne.mpr c8
          replace H := Option.bind_eq_some_iff.mp H
          obtain ⟨t106, A110, H⟩ := H
          replace H : (if t106 = a0 then (some (wrap64 (ji7), true)) else (some (0, false))) = some (r1, r2) := H
          have A11 := Aside0.mk A110
          clear A110
          by_cases c12 : t106 = a0
          · rw [if_pos c12] at H
            have c12b0 : (t106 == a0) = true := beq_iff_eq.mpr c12
            have c12b1 : (t106 != a0) = false := bne_eq_false_iff_eq.mpr c12
            clear c12
            simp only [Option.some.injEq, Prod.mk.injEq] at H
            obtain ⟨rfl, rfl⟩ := H
            go_enter Try.func37, Try.ntmps37
            go_wp2_with (first | ((with_reducible refine gate_callee (f := 51) rfl ?_); refine goesL_ (some 18) rfl rfl Try.func51 (by kernel_rfl) rfl #[.int .i64 (wrap64 ((wrap64 (Go.bits .and .u64 ((IntKind.u64.wrap (a0)) / 4503599627370496) 2047)) - 1023)), .int .i64 0, .int .i64 53] rfl (by (try simp only [List.map_toArray, List.map_cons, List.map_nil]); first | done | rfl | (simp only [List.length_drop, List.length_take]; rfl)) ?_; (with_reducible refine (impl_inRange.calls (wrap64 ((wrap64 (Go.bits .and .u64 ((IntKind.u64.wrap (a0)) / 4503599627370496) 2047)) - 1023)) 0 53 true _ A3.out).mono ?_); rintro e w' ⟨rfl, ⟨nd, rfl⟩⟩; refine ⟨_, rfl, ?_⟩) | ((with_reducible refine gate_callee (f := 16) rfl ?_); refine goesL_ (some 35) rfl rfl Try.func16 (by kernel_rfl) rfl #[.int .i64 (wrap64 (ji7))] rfl (by (try simp only [List.map_toArray, List.map_cons, List.map_nil]); first | done | (simp only [hji7]; rfl) | rfl | (simp only [List.length_drop, List.length_take]; rfl)) ?_; (with_reducible refine (impl_FloatOf.calls k (wrap64 (ji7)) t106 _ A11.out).mono ?_); rintro e w' ⟨rfl, ⟨nd, rfl⟩⟩; refine ⟨_, rfl, ?_⟩))
            go_ret2
            exact ⟨by first | rfl | (simp; done) | (simp only [← hji5, ← hji7] <;> (first | rfl | simp)) | (simp [*]; done), by repeat (first | exact Drawn0.refl _ | apply Drawn0.step)⟩
          · rw [if_neg c12] at H
            have c12b0 : (t106 == a0) = false := beq_eq_false_iff_ne.mpr c12
            have c12b1 : (t106 != a0) = true := bne_iff_ne.mpr c12
            simp only [Option.some.injEq, Prod.mk.injEq] at H
            obtain ⟨rfl, rfl⟩ := H
            go_enter Try.func37, Try.ntmps37
            go_wp2_with (first | ((with_reducible refine gate_callee (f := 51) rfl ?_); refine goesL_ (some 18) rfl rfl Try.func51 (by kernel_rfl) rfl #[.int .i64 (wrap64 ((wrap64 (Go.bits .and .u64 ((IntKind.u64.wrap (a0)) / 4503599627370496) 2047)) - 1023)), .int .i64 0, .int .i64 53] rfl (by (try simp only [List.map_toArray, List.map_cons, List.map_nil]); first | done | rfl | (simp only [List.length_drop, List.length_take]; rfl)) ?_; (with_reducible refine (impl_inRange.calls (wrap64 ((wrap64 (Go.bits .and .u64 ((IntKind.u64.wrap (a0)) / 4503599627370496) 2047)) - 1023)) 0 53 true _ A3.out).mono ?_); rintro e w' ⟨rfl, ⟨nd, rfl⟩⟩; refine ⟨_, rfl, ?_⟩) | ((with_reducible refine gate_callee (f := 16) rfl ?_); refine goesL_ (some 35) rfl rfl Try.func16 (by kernel_rfl) rfl #[.int .i64 (wrap64 (ji7))] rfl (by (try simp only [List.map_toArray, List.map_cons, List.map_nil]); first | done | (simp only [hji7]; rfl) | rfl | (simp only [List.length_drop, List.length_take]; rfl)) ?_; (with_reducible refine (impl_FloatOf.calls k (wrap64 (ji7)) t106 _ A11.out).mono ?_); rintro e w' ⟨rfl, ⟨nd, rfl⟩⟩; refine ⟨_, rfl, ?_⟩))
            go_ret2
            exact ⟨by first | rfl | (simp; done) | (simp only [← hji5, ← hji7] <;> (first | rfl | simp)) | (simp [*]; done), by repeat (first | exact Drawn0.refl _ | apply Drawn0.step)⟩
      · rw [if_neg c6] at H
        exact absurd H (by simp)
    · replace c4 := Bool.eq_false_iff.mpr c4
      subst c4
      have H1 : (some (0, false)) = some (r1, r2) := by rw [if_neg (show ¬ (false = true) by decide)] at H; exact H
      clear H
      have H := H1
      clear H1
      simp only [Option.some.injEq, Prod.mk.injEq] at H
      obtain ⟨rfl, rfl⟩ := H
      go_enter Try.func37, Try.ntmps37
      go_wp2_with (first | ((with_reducible refine gate_callee (f := 51) rfl ?_); refine goesL_ (some 18) rfl rfl Try.func51 (by kernel_rfl) rfl #[.int .i64 (wrap64 ((wrap64 (Go.bits .and .u64 ((IntKind.u64.wrap (a0)) / 4503599627370496) 2047)) - 1023)), .int .i64 0, .int .i64 53] rfl (by (try simp only [List.map_toArray, List.map_cons, List.map_nil]); first | done | rfl | (simp only [List.length_drop, List.length_take]; rfl)) ?_; (with_reducible refine (impl_inRange.calls (wrap64 ((wrap64 (Go.bits .and .u64 ((IntKind.u64.wrap (a0)) / 4503599627370496) 2047)) - 1023)) 0 53 false _ A3.out).mono ?_); rintro e w' ⟨rfl, ⟨nd, rfl⟩⟩; refine ⟨_, rfl, ?_⟩))
      go_ret2
      exact ⟨by first | rfl | (simp; done) | (simp [*]; done), by repeat (first | exact Drawn0.refl _ | apply Drawn0.step)⟩

/-! ### spec_l1In: function 50 -/
def spec_l1In.f (a0 : Int) (a1 : Int) (a2 : Int) : Option (Bool) := if a0 ≥ a1 then (some (decide (a0 ≤ a2))) else (some false)
set_option maxHeartbeats 8000000 in
set_option maxRecDepth 100000 in
theorem spec_l1In.calls (a0 : Int) (a1 : Int) (a2 : Int) (r : Bool) (w : World) (h : spec_l1In.f a0 a1 a2 = some r) :
    Calls Try.prog 50 #[.int .i64 a0, .int .i64 a1, .int .i64 a2] w fun e w' => e = .returned (.bool r) ∧ Drawn0 w w' := by
  have H : (if a0 ≥ a1 then (some (decide (a0 ≤ a2))) else (some false)) = some r := h
  clear h
  by_cases c4 : a0 ≥ a1
  · rw [if_pos c4] at H
    have c4b0 : decide (a1 ≤ a0) = true := decide_eq_true c4
    clear c4
    obtain rfl := Option.some.inj H
    go_enter Try.func50, Try.ntmps50
    go_wp2
    go_ret
    exact ⟨by first | rfl | (simp; done) | (simp [*]; done), by repeat (first | exact Drawn0.refl _ | apply Drawn0.step)⟩
  · rw [if_neg c4] at H
    have c4b0 : decide (a1 ≤ a0) = false := decide_eq_false c4
    clear c4
    obtain rfl := Option.some.inj H
    go_enter Try.func50, Try.ntmps50
    go_wp2
    go_ret
    exact ⟨by first | rfl | (simp; done) | (simp [*]; done), by repeat (first | exact Drawn0.refl _ | apply Drawn0.step)⟩

end Go.Proofs.Ytffcohllkoefeaa.PFnExactIntOf
