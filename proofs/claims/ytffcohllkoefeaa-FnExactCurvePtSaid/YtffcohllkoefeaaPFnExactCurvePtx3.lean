-- PRINTED BY print.sh 35421559b90ae4d0a3588c463048766b98c2df88dd9212a6774a882060cdf62d: not written by this session
import Derived.Test.YtffcohllkoefeaaPFnExactCurvePtx0
import Derived.Test.YtffcohllkoefeaaPFnExactCurvePtx2
namespace Go.Proofs.Ytffcohllkoefeaa.PFnExactCurvePt
open Go.RowKit Go.Proofs.YtffcohllkoefeaaW.PrintWords Go.Proofs.YtffcohllkoefeaaW.PrintLast Go.Proofs.YtffcohllkoefeaaW.PrintMore
attribute [local go_sem] max2_int min2_int max_two min_two max_three min_three max_four min_four   -- for this text's walks alone
set_option linter.unusedVariables false
set_option linter.unusedSimpArgs false

/-! ### impl_PtOk: function 62 -/
def impl_PtOk.f (a0_0 : Int) (a0_1 : Int) : Option (Bool) := (impl_isCoord.f a0_0).bind fun t110 => (if t110 = true then ((impl_isCoord.f a0_1).bind fun t111 => (some t111)) else (some false))
set_option maxHeartbeats 8000000 in
set_option maxRecDepth 100000 in
theorem impl_PtOk.calls (a0_0 : Int) (a0_1 : Int) (r : Bool) (w : World) (h : impl_PtOk.f a0_0 a0_1 = some r) :
    Calls Try.prog 62 #[.agg #[.int .i64 a0_0, .int .i64 a0_1]] w fun e w' => e = .returned (.bool r) ∧ Below w.heap.size w w' := by
  have hu38 := Try.underlying38
  have HB := Aside0.mk (Below.refl w.heap.size w)
  have H : ((impl_isCoord.f a0_0).bind fun t110 => (if t110 = true then ((impl_isCoord.f a0_1).bind fun t111 => (some t111)) else (some false))) = some r := h
  clear h
  replace H := Option.bind_eq_some_iff.mp H
  obtain ⟨t110, A20, H⟩ := H
  replace H : (if t110 = true then ((impl_isCoord.f a0_1).bind fun t111 => (some t111)) else (some false)) = some r := H
  have A2 := Aside0.mk A20
  clear A20
  by_cases c3 : t110 = true
  · subst c3
    have H1 : ((impl_isCoord.f a0_1).bind fun t111 => (some t111)) = some r := by rw [if_pos rfl] at H; exact H
    clear H
    have H := H1
    clear H1
    replace H := Option.bind_eq_some_iff.mp H
    obtain ⟨t111, A40, H⟩ := H
    replace H : (some t111) = some r := H
    have A4 := Aside0.mk A40
    clear A40
    obtain rfl := Option.some.inj H
    go_enter Try.func62, Try.ntmps62
    go_wp2_with (first | ((with_reducible refine gate_dst (N := 1) rfl ?_); refine box_event ?hg (N := 1) ?hd (cs := #[.int .i64 a0_0, .int .i64 a0_1]) (t := 38) ?hr ?_; (case hd => rfl); (case hg => rfl); (case hr => first | (go_simp; done) | (go_simp; rfl)); intro gb109 hg w5 hbox hb; have n0_ := Aside0.mk (below_step (by repeat (first | (with_reducible first | exact HB.out | apply below_alloc | apply pw_below_drewN | apply below_drew1) | exact HB.out)) hb); have n1_ := Aside0.mk (hbox); have n2_ := Aside0.mk ((by rw [hg]; exact (below_size (by repeat (first | (with_reducible first | exact HB.out | apply below_alloc | apply pw_below_drewN | apply below_drew1) | exact HB.out))) : w.heap.size ≤ gb109)); have n3_ := Aside0.mk ((by rw [hg]; exact (below_size (by repeat (first | (with_reducible first | exact HB.out | apply below_alloc | apply pw_below_drewN | apply below_drew1) | exact HB.out))) : w.heap.size ≤ gb109)); clear HB; have HB := n0_; have BK109 := n1_; have GW109 := n2_; have GE109 := n3_; clear n0_ n1_ n2_ n3_; clear hb hbox hg; have hcz6_0 : w5.cell? ⟨gb109, 0, none⟩ = some (.int .i64 a0_0) := (blk_cell BK109.out 0).trans rfl; have hcz6_1 : w5.cell? ⟨gb109, 1, none⟩ = some (.int .i64 a0_1) := (blk_cell BK109.out 1).trans rfl; have hfz6_0 := blk_frozen BK109.out 0; have hfz6_1 := blk_frozen BK109.out 1) | ((with_reducible refine gate_callee (f := 88) rfl ?_); refine goesL_ (some 5) rfl rfl Try.func88 (by kernel_rfl) rfl #[.int .i64 a0_0] rfl (by (try simp only [List.map_toArray, List.map_cons, List.map_nil]); first | done | rfl | (simp only [List.length_drop, List.length_take]; rfl)) ?_; (with_reducible refine (impl_isCoord.calls a0_0 true _ A2.out).mono ?_); rintro e w' ⟨rfl, ⟨nd, rfl⟩⟩; refine ⟨_, rfl, ?_⟩) | (go_at_call 88; (with_reducible refine (impl_isCoord.calls a0_1 t111 _ A4.out).mono ?_); rintro e w' ⟨rfl, ⟨nd, rfl⟩⟩))
    go_ret
    exact ⟨by first | rfl | (simp [errW_none, errW_some] <;> rfl) | (simp [*, errW_none, errW_some] <;> rfl), by repeat (first | (with_reducible first | exact HB.out | apply below_alloc | apply pw_below_drewN | apply below_drew1 | refine below_set ?_ GE109.out) | exact HB.out)⟩
  · replace c3 := Bool.eq_false_iff.mpr c3
    subst c3
    have H1 : (some false) = some r := by rw [if_neg (show ¬ (false = true) by decide)] at H; exact H
    clear H
    have H := H1
    clear H1
    obtain rfl := Option.some.inj H
    go_enter Try.func62, Try.ntmps62
    go_wp2_with (first | ((with_reducible refine gate_dst (N := 1) rfl ?_); refine box_event ?hg (N := 1) ?hd (cs := #[.int .i64 a0_0, .int .i64 a0_1]) (t := 38) ?hr ?_; (case hd => rfl); (case hg => rfl); (case hr => first | (go_simp; done) | (go_simp; rfl)); intro gb109 hg w7 hbox hb; have n0_ := Aside0.mk (below_step (by repeat (first | (with_reducible first | exact HB.out | apply below_alloc | apply pw_below_drewN | apply below_drew1) | exact HB.out)) hb); have n1_ := Aside0.mk (hbox); have n2_ := Aside0.mk ((by rw [hg]; exact (below_size (by repeat (first | (with_reducible first | exact HB.out | apply below_alloc | apply pw_below_drewN | apply below_drew1) | exact HB.out))) : w.heap.size ≤ gb109)); have n3_ := Aside0.mk ((by rw [hg]; exact (below_size (by repeat (first | (with_reducible first | exact HB.out | apply below_alloc | apply pw_below_drewN | apply below_drew1) | exact HB.out))) : w.heap.size ≤ gb109)); clear HB; have HB := n0_; have BK109 := n1_; have GW109 := n2_; have GE109 := n3_; clear n0_ n1_ n2_ n3_; clear hb hbox hg; have hcz8_0 : w7.cell? ⟨gb109, 0, none⟩ = some (.int .i64 a0_0) := (blk_cell BK109.out 0).trans rfl; have hcz8_1 : w7.cell? ⟨gb109, 1, none⟩ = some (.int .i64 a0_1) := (blk_cell BK109.out 1).trans rfl; have hfz8_0 := blk_frozen BK109.out 0; have hfz8_1 := blk_frozen BK109.out 1) | ((with_reducible refine gate_callee (f := 88) rfl ?_); refine goesL_ (some 5) rfl rfl Try.func88 (by kernel_rfl) rfl #[.int .i64 a0_0] rfl (by (try simp only [List.map_toArray, List.map_cons, List.map_nil]); first | done | rfl | (simp only [List.length_drop, List.length_take]; rfl)) ?_; (with_reducible refine (impl_isCoord.calls a0_0 false _ A2.out).mono ?_); rintro e w' ⟨rfl, ⟨nd, rfl⟩⟩; refine ⟨_, rfl, ?_⟩))
    go_ret
    exact ⟨by first | rfl | (simp [errW_none, errW_some] <;> rfl) | (simp [*, errW_none, errW_some] <;> rfl), by repeat (first | (with_reducible first | exact HB.out | apply below_alloc | apply pw_below_drewN | apply below_drew1 | refine below_set ?_ GE109.out) | exact HB.out)⟩

/-! ### impl_cellOf: function 71 -/
def impl_cellOf.l0 : Nat → Int → Int → Int → Int → Int → Option (Int × Int)
  | 0, _, _, _, _, _ => none
  | k + 1, x0, x6, x7, x10, x11 => if x11 < x10 then (if 0 ≤ (IntKind.u64.wrap (x11)) then (if 0 ≤ (IntKind.u64.wrap (wrap64 (2 * x11))) then (if (Go.bits .and .i64 (shr .i64 x0 (IntKind.u64.wrap (wrap64 (2 * x11)))) 3) = 0 then (impl_cellOf.l0 k x0 x7 x6 x10 (wrap64 (x11 + 1))) else (if (Go.bits .and .i64 (shr .i64 x0 (IntKind.u64.wrap (wrap64 (2 * x11)))) 3) = 1 then (impl_cellOf.l0 k x0 x6 (wrap64 (x7 + (shl .i64 1 (IntKind.u64.wrap (x11))))) x10 (wrap64 (x11 + 1))) else (if (Go.bits .and .i64 (shr .i64 x0 (IntKind.u64.wrap (wrap64 (2 * x11)))) 3) = 2 then (impl_cellOf.l0 k x0 (wrap64 (x6 + (shl .i64 1 (IntKind.u64.wrap (x11))))) (wrap64 (x7 + (shl .i64 1 (IntKind.u64.wrap (x11))))) x10 (wrap64 (x11 + 1))) else (impl_cellOf.l0 k x0 (wrap64 ((wrap64 ((wrap64 (2 * (shl .i64 1 (IntKind.u64.wrap (x11))))) - 1)) - x7)) (wrap64 ((wrap64 ((shl .i64 1 (IntKind.u64.wrap (x11))) - 1)) - x6)) x10 (wrap64 (x11 + 1)))))) else (none)) else (none)) else (some (x6, x7))
def impl_cellOf.f (k : Nat) (a0 : Int) (a1 : Int) : Option (Int × Int) := impl_cellOf.l0 k a0 0 0 a1 0
theorem impl_cellOf.mono_l : ∀ k, (∀ y0 y1 y2 y3 y4, LeO (impl_cellOf.l0 k y0 y1 y2 y3 y4) (impl_cellOf.l0 (k + 1) y0 y1 y2 y3 y4))
  | 0 => fun _ _ _ _ _ r h => by simp [impl_cellOf.l0] at h
  | k + 1 => by
    have ih0 := impl_cellOf.mono_l k
    · intro y0 y1 y2 y3 y4
      unfold impl_cellOf.l0
      repeat' first
      | (with_reducible exact ih0 _ _ _ _ _)
      | (with_reducible exact LeO.refl _)
      | (with_reducible exact LeO.none _)
      | (with_reducible refine LeO.ite ?_ ?_)
      | (with_reducible refine LeO.bind ?_ (fun _ => ?_))
      | exact ih0 _ _ _ _ _
      | exact LeO.none _
      | refine LeO.ite ?_ ?_
      | refine LeO.bind ?_ (fun _ => ?_)
theorem impl_cellOf.mono : ∀ a0 a1 k, LeO (impl_cellOf.f k a0 a1) (impl_cellOf.f (k + 1) a0 a1) := by
  intro a0 a1 k
  have ih0 := impl_cellOf.mono_l k
  unfold impl_cellOf.f
  repeat' first
      | (with_reducible exact ih0 _ _ _ _ _)
      | (with_reducible exact LeO.refl _)
      | (with_reducible exact LeO.none _)
      | (with_reducible refine LeO.ite ?_ ?_)
      | (with_reducible refine LeO.bind ?_ (fun _ => ?_))
      | exact ih0 _ _ _ _ _
      | exact LeO.none _
      | refine LeO.ite ?_ ?_
      | refine LeO.bind ?_ (fun _ => ?_)
set_option maxHeartbeats 8000000 in
set_option maxRecDepth 100000 in
theorem impl_cellOf.calls (k : Nat) (a0 : Int) (a1 : Int) (r1 : Int) (r2 : Int) (w : World) (h : impl_cellOf.f k a0 a1 = some (r1, r2)) :
    Calls Try.prog 71 #[.int .i64 a0, .int .i64 a1] w fun e w' => e = .returned (.tuple #[.int .i64 r1, .int .i64 r2]) ∧ Drawn0 w w' := by
  have H : (impl_cellOf.l0 k a0 0 0 a1 0) = some (r1, r2) := h
  clear h
  have H' := Aside0.mk H
  clear H
  go_enter Try.func71, Try.ntmps71
  go_wp2
  go_loopg [6, 7, 11] k (fun kq v6 v7 v11 w' => ∃ (x6_1 : Int) (x7_1 : Int) (x11_1 : Int), v6 = .int .i64 x6_1 ∧ v7 = .int .i64 x7_1 ∧ v11 = .int .i64 x11_1 ∧ Aside0 (impl_cellOf.l0 kq a0 x6_1 x7_1 a1 x11_1 = some (r1, r2)) ∧ Aside0 (kq ≤ k) ∧ Drawn0 w w')
  case atStart => exact ⟨(0), (0), (0), (by first | rfl | (simp; done) | (simp [*]; done)), (by first | rfl | (simp; done) | (simp [*]; done)), (by first | rfl | (simp; done) | (simp [*]; done)), H', ⟨Nat.le_refl _⟩, by repeat (first | exact Drawn0.refl _ | apply Drawn0.step)⟩
  case round =>
    clear H'
    try clear p2
    obtain ⟨x6_1, x7_1, x11_1, rfl, rfl, rfl, HA, HK1, ⟨m1, rfl⟩⟩ := hrel
    cases gk with
    | zero => exact absurd HA.out (by simp [impl_cellOf.l0])
    | succ k1 =>
      have H := HA.out
      clear HA
      simp only [impl_cellOf.l0] at H
      by_cases c3 : x11_1 < a1
      · rw [if_pos c3] at H
        have c3b0 : decide (x11_1 < a1) = true := decide_eq_true c3
        clear c3
        obtain ⟨ji4, hji4⟩ : ∃ j_ : Int, (IntKind.u64.wrap (x11_1)) = j_ := ⟨_, rfl⟩
        replace H : (if 0 ≤ (ji4) then (if 0 ≤ (IntKind.u64.wrap (wrap64 (2 * x11_1))) then (if (Go.bits .and .i64 (shr .i64 a0 (IntKind.u64.wrap (wrap64 (2 * x11_1)))) 3) = 0 then (impl_cellOf.l0 k1 a0 x7_1 x6_1 a1 (wrap64 (x11_1 + 1))) else (if (Go.bits .and .i64 (shr .i64 a0 (IntKind.u64.wrap (wrap64 (2 * x11_1)))) 3) = 1 then (impl_cellOf.l0 k1 a0 x6_1 (wrap64 (x7_1 + (shl .i64 1 (ji4)))) a1 (wrap64 (x11_1 + 1))) else (if (Go.bits .and .i64 (shr .i64 a0 (IntKind.u64.wrap (wrap64 (2 * x11_1)))) 3) = 2 then (impl_cellOf.l0 k1 a0 (wrap64 (x6_1 + (shl .i64 1 (ji4)))) (wrap64 (x7_1 + (shl .i64 1 (ji4)))) a1 (wrap64 (x11_1 + 1))) else (impl_cellOf.l0 k1 a0 (wrap64 ((wrap64 ((wrap64 (2 * (shl .i64 1 (ji4)))) - 1)) - x7_1)) (wrap64 ((wrap64 ((shl .i64 1 (ji4)) - 1)) - x6_1)) a1 (wrap64 (x11_1 + 1)))))) else (none)) else (none)) = some (r1, r2) := by first | (rw [hji4] at H; exact H) | (simp only [hji4] at H ⊢; exact H)
        by_cases c5 : 0 ≤ (ji4)
        · rw [if_pos c5] at H
          have c5b0 := eq_true c5
          have c5b1 : decide (0 ≤ (ji4)) = true := decide_eq_true c5
          clear c5
          obtain ⟨ji6, hji6⟩ : ∃ j_ : Int, (shl .i64 1 (ji4)) = j_ := ⟨_, rfl⟩
          replace H : (if 0 ≤ (IntKind.u64.wrap (wrap64 (2 * x11_1))) then (if (Go.bits .and .i64 (shr .i64 a0 (IntKind.u64.wrap (wrap64 (2 * x11_1)))) 3) = 0 then (impl_cellOf.l0 k1 a0 x7_1 x6_1 a1 (wrap64 (x11_1 + 1))) else (if (Go.bits .and .i64 (shr .i64 a0 (IntKind.u64.wrap (wrap64 (2 * x11_1)))) 3) = 1 then (impl_cellOf.l0 k1 a0 x6_1 (wrap64 (x7_1 + (ji6))) a1 (wrap64 (x11_1 + 1))) else (if (Go.bits .and .i64 (shr .i64 a0 (IntKind.u64.wrap (wrap64 (2 * x11_1)))) 3) = 2 then (impl_cellOf.l0 k1 a0 (wrap64 (x6_1 + (ji6))) (wrap64 (x7_1 + (ji6))) a1 (wrap64 (x11_1 + 1))) else (impl_cellOf.l0 k1 a0 (wrap64 ((wrap64 ((wrap64 (2 * (ji6))) - 1)) - x7_1)) (wrap64 ((wrap64 ((ji6) - 1)) - x6_1)) a1 (wrap64 (x11_1 + 1)))))) else (none)) = some (r1, r2) := by first | (rw [hji6] at H; exact H) | (simp only [hji6] at H ⊢; exact H)
          have hji6_ : (IntKind.i64.wrap (1 * 2 ^ min (ji4).toNat 64)) = ji6 := hji6
          have hji6z : (ji4) ≤ 64 → (IntKind.i64.wrap (1 * 2 ^ (ji4).toNat)) = ji6 := shl_small hji6
          have hji6u : (IntKind.i64.wrap (2 ^ min (ji4).toNat 64)) = ji6 := by have h_ := hji6_; rw [Int.one_mul] at h_; exact h_
          have hji6v : (ji4) ≤ 64 → (IntKind.i64.wrap (2 ^ (ji4).toNat)) = ji6 := fun hle_ => by have h_ := hji6z hle_; rw [Int.one_mul] at h_; exact h_
          have hji6y : (wrap64 (1 * 2 ^ min (ji4).toNat 64)) = ji6 := (i64_w _).symm.trans hji6_
          have hji6x : (ji4) ≤ 64 → (wrap64 (1 * 2 ^ (ji4).toNat)) = ji6 := fun h_ => (i64_w _).symm.trans (hji6z h_)
          obtain ⟨ji7, hji7⟩ : ∃ j_ : Int, (IntKind.u64.wrap (wrap64 (2 * x11_1))) = j_ := ⟨_, rfl⟩
          replace H : (if 0 ≤ (ji7) then (if (Go.bits .and .i64 (shr .i64 a0 (ji7)) 3) = 0 then (impl_cellOf.l0 k1 a0 x7_1 x6_1 a1 (wrap64 (x11_1 + 1))) else (if (Go.bits .and .i64 (shr .i64 a0 (ji7)) 3) = 1 then (impl_cellOf.l0 k1 a0 x6_1 (wrap64 (x7_1 + (ji6))) a1 (wrap64 (x11_1 + 1))) else (if (Go.bits .and .i64 (shr .i64 a0 (ji7)) 3) = 2 then (impl_cellOf.l0 k1 a0 (wrap64 (x6_1 + (ji6))) (wrap64 (x7_1 + (ji6))) a1 (wrap64 (x11_1 + 1))) else (impl_cellOf.l0 k1 a0 (wrap64 ((wrap64 ((wrap64 (2 * (ji6))) - 1)) - x7_1)) (wrap64 ((wrap64 ((ji6) - 1)) - x6_1)) a1 (wrap64 (x11_1 + 1)))))) else (none)) = some (r1, r2) := by first | (rw [hji7] at H; exact H) | (simp only [hji7] at H ⊢; exact H)
          by_cases c8 : 0 ≤ (ji7)
          · rw [if_pos c8] at H
            have c8b0 := eq_true c8
            have c8b1 : decide (0 ≤ (ji7)) = true := decide_eq_true c8
            clear c8
            obtain ⟨ji9, hji9⟩ : ∃ j_ : Int, (shr .i64 a0 (ji7)) = j_ := ⟨_, rfl⟩
            replace H : (if (Go.bits .and .i64 (ji9) 3) = 0 then (impl_cellOf.l0 k1 a0 x7_1 x6_1 a1 (wrap64 (x11_1 + 1))) else (if (Go.bits .and .i64 (ji9) 3) = 1 then (impl_cellOf.l0 k1 a0 x6_1 (wrap64 (x7_1 + (ji6))) a1 (wrap64 (x11_1 + 1))) else (if (Go.bits .and .i64 (ji9) 3) = 2 then (impl_cellOf.l0 k1 a0 (wrap64 (x6_1 + (ji6))) (wrap64 (x7_1 + (ji6))) a1 (wrap64 (x11_1 + 1))) else (impl_cellOf.l0 k1 a0 (wrap64 ((wrap64 ((wrap64 (2 * (ji6))) - 1)) - x7_1)) (wrap64 ((wrap64 ((ji6) - 1)) - x6_1)) a1 (wrap64 (x11_1 + 1)))))) = some (r1, r2) := by first | (rw [hji9] at H; exact H) | (simp only [hji9] at H ⊢; exact H)
            have hji9_ : (a0 / 2 ^ min (ji7).toNat 64) = ji9 := hji9
            have hji9z : (ji7) ≤ 64 → (a0 / 2 ^ (ji7).toNat) = ji9 := shr_small hji9
            by_cases c10 : (Go.bits .and .i64 (ji9) 3) = 0
            · rw [if_pos c10] at H
              have c10b0 : ((Go.bits .and .i64 (ji9) 3) == 0) = true := beq_iff_eq.mpr c10
              have c10b1 : ((Go.bits .and .i64 (ji9) 3) != 0) = false := bne_eq_false_iff_eq.mpr c10
              clear c10
              have H' := Aside0.mk H
              clear H
              go_wp2
              go_roundg k1
              case measure => have := HK1.out; omega
              case rel => exact ⟨(x7_1), (x6_1), (wrap64 (x11_1 + 1)), (by first | rfl | (simp; done) | (simp [*]; done)), (by first | rfl | (simp; done) | (simp [*]; done)), (by first | rfl | (simp; done) | (simp [*]; done)), H', ⟨by have := HK1.out; omega⟩, by repeat (first | exact Drawn0.refl _ | apply Drawn0.step)⟩
            · rw [if_neg c10] at H
              have c10b0 : ((Go.bits .and .i64 (ji9) 3) == 0) = false := beq_eq_false_iff_ne.mpr c10
              have c10b1 : ((Go.bits .and .i64 (ji9) 3) != 0) = true := bne_iff_ne.mpr c10
              by_cases c11 : (Go.bits .and .i64 (ji9) 3) = 1
              · rw [if_pos c11] at H
                have c11b0 : ((Go.bits .and .i64 (ji9) 3) == 1) = true := beq_iff_eq.mpr c11
                have c11b1 : ((Go.bits .and .i64 (ji9) 3) != 1) = false := bne_eq_false_iff_eq.mpr c11
                clear c11
                have H' := Aside0.mk H
                clear H
                go_wp2
                go_roundg k1
                case measure => have := HK1.out; omega
                case rel => exact ⟨(x6_1), (wrap64 (x7_1 + (ji6))), (wrap64 (x11_1 + 1)), (by first | rfl | (simp; done) | (simp [*]; done)), (by first | rfl | (simp; done) | (simp only [← hji6] <;> (first | rfl | simp)) | (simp [*]; done)), (by first | rfl | (simp; done) | (simp [*]; done)), H', ⟨by have := HK1.out; omega⟩, by repeat (first | exact Drawn0.refl _ | apply Drawn0.step)⟩
              · rw [if_neg c11] at H
                have c11b0 : ((Go.bits .and .i64 (ji9) 3) == 1) = false := beq_eq_false_iff_ne.mpr c11
                have c11b1 : ((Go.bits .and .i64 (ji9) 3) != 1) = true := bne_iff_ne.mpr c11
                by_cases c12 : (Go.bits .and .i64 (ji9) 3) = 2
                · rw [if_pos c12] at H
                  have c12b0 : ((Go.bits .and .i64 (ji9) 3) == 2) = true := beq_iff_eq.mpr c12
                  have c12b1 : ((Go.bits .and .i64 (ji9) 3) != 2) = false := bne_eq_false_iff_eq.mpr c12
                  clear c12
                  have H' := Aside0.mk H
                  clear H
                  go_wp2
                  go_roundg k1
                  case measure => have := HK1.out; omega
                  case rel => exact ⟨(wrap64 (x6_1 + (ji6))), (wrap64 (x7_1 + (ji6))), (wrap64 (x11_1 + 1)), (by first | rfl | (simp; done) | (simp only [← hji6] <;> (first | rfl | simp)) | (simp [*]; done)), (by first | rfl | (simp; done) | (simp only [← hji6] <;> (first | rfl | simp)) | (simp [*]; done)), (by first | rfl | (simp; done) | (simp [*]; done)), H', ⟨by have := HK1.out; omega⟩, by repeat (first | exact Drawn0.refl _ | apply Drawn0.step)⟩
                · rw [if_neg c12] at H
                  have c12b0 : ((Go.bits .and .i64 (ji9) 3) == 2) = false := beq_eq_false_iff_ne.mpr c12
                  have c12b1 : ((Go.bits .and .i64 (ji9) 3) != 2) = true := bne_iff_ne.mpr c12
                  have H' := Aside0.mk H
                  clear H
                  go_wp2
                  go_roundg k1
                  case measure => have := HK1.out; omega
                  case rel => exact ⟨(wrap64 ((wrap64 ((wrap64 (2 * (ji6))) - 1)) - x7_1)), (wrap64 ((wrap64 ((ji6) - 1)) - x6_1)), (wrap64 (x11_1 + 1)), (by first | rfl | (simp; done) | (simp only [← hji6] <;> (first | rfl | simp)) | (simp [*]; done)), (by first | rfl | (simp; done) | (simp only [← hji6] <;> (first | rfl | simp)) | (simp [*]; done)), (by first | rfl | (simp; done) | (simp [*]; done)), H', ⟨by have := HK1.out; omega⟩, by repeat (first | exact Drawn0.refl _ | apply Drawn0.step)⟩
          · rw [if_neg c8] at H
            exact absurd H (by simp)
        · rw [if_neg c5] at H
          exact absurd H (by simp)
      · rw [if_neg c3] at H
        have c3b0 : decide (x11_1 < a1) = false := decide_eq_false c3
        clear c3
        simp only [Option.some.injEq, Prod.mk.injEq] at H
        obtain ⟨rfl, rfl⟩ := H
        go_wp2
        go_ret2
        exact ⟨by first | rfl | (simp; done) | (simp [*]; done), by repeat (first | exact Drawn0.refl _ | apply Drawn0.step)⟩

end Go.Proofs.Ytffcohllkoefeaa.PFnExactCurvePt
