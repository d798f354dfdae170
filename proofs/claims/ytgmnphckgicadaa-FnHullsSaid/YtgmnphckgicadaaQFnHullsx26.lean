/- The functions that the law FnHulls reaches, each with what it computes and its contract. -/
import Derived.Test.YtgmnphckgicadaaQFnHullsx0
import Derived.Test.YtgmnphckgicadaaQFnHullsx2
import Derived.Test.YtgmnphckgicadaaQFnHullsx6
import Derived.Test.YtgmnphckgicadaaQFnHullsx16
import Derived.Test.YtgmnphckgicadaaQFnHullsx21
import Derived.Test.YtgmnphckgicadaaQFnHullsx22
import Derived.Test.YtgmnphckgicadaaQFnHullsx24
import Derived.Test.YtgmnphckgicadaaQFnHullsx25
namespace Go.Proofs.Ytgmnphckgicadaa.PFnHulls
open Go.RowKit Go.Proofs.YtgmnphckgicadaaW.PrintWords Go.Proofs.YtgmnphckgicadaaW.PrintLast Go.Proofs.YtgmnphckgicadaaW.PrintMore
attribute [local go_sem] max2_int min2_int max_two min_two max_three min_three max_four min_four
set_option linter.unusedVariables false
set_option linter.unusedSimpArgs false

mutual
def laws_FnHulls.l0 : Nat → List (S67) → List (S67) → Int → Int → Option (Bool)
 | 0, _, _, _, _ => none
 | k + 1, x3, x4, x5, x6 => if x6 < x5 then (laws_FnHulls.j1 k x3 x4 x5 x6 (decide (x5 > 2))) else (laws_FnHulls.j1 k x3 x4 x5 x6 false)
def laws_FnHulls.j1 : Nat → List (S67) → List (S67) → Int → Int → Bool → Option (Bool)
 | 0, _, _, _, _, _ => none
 | k + 1, x3, x4, x5, x6, x30 => if x30 = true then (if 0 ≤ x6 then (if x6 < (x4.length : Int) then (if x5 = 0 then (none) else (if 0 ≤ (Int.tmod (wrap64 (x6 + 1)) x5) then (if (Int.tmod (wrap64 (x6 + 1)) x5) < (x4.length : Int) then (if 0 ≤ (Int.tmod (wrap64 (x6 + 2)) x5) then (if (Int.tmod (wrap64 (x6 + 2)) x5) < (x4.length : Int) then ((impl_Turn.f ((rd_T67 x4 x6).f0) ((rd_T67 x4 x6).f1) ((rd_T67 x4 (Int.tmod (wrap64 (x6 + 1)) x5)).f0) ((rd_T67 x4 (Int.tmod (wrap64 (x6 + 1)) x5)).f1) ((rd_T67 x4 (Int.tmod (wrap64 (x6 + 2)) x5)).f0) ((rd_T67 x4 (Int.tmod (wrap64 (x6 + 2)) x5)).f1)).bind fun t432 => (if t432 = 1 then (laws_FnHulls.l1 k x3 x4 x5 x6 0) else (some false))) else (none)) else (none)) else (none)) else (none))) else (none)) else (none)) else (laws_FnHulls.l2 k x3 x4 x5 0)
def laws_FnHulls.l1 : Nat → List (S67) → List (S67) → Int → Int → Int → Option (Bool)
 | 0, _, _, _, _, _ => none
 | k + 1, x3, x4, x5, x6, x7 => if x7 < (x3.length : Int) then (if 0 ≤ x6 then (if x6 < (x4.length : Int) then (if x5 = 0 then (none) else (if 0 ≤ (Int.tmod (wrap64 (x6 + 1)) x5) then (if (Int.tmod (wrap64 (x6 + 1)) x5) < (x4.length : Int) then (if 0 ≤ x7 then ((impl_Turn.f ((rd_T67 x4 x6).f0) ((rd_T67 x4 x6).f1) ((rd_T67 x4 (Int.tmod (wrap64 (x6 + 1)) x5)).f0) ((rd_T67 x4 (Int.tmod (wrap64 (x6 + 1)) x5)).f1) ((rd_T67 x3 x7).f0) ((rd_T67 x3 x7).f1)).bind fun t436 => (if t436 < 0 then (some false) else (laws_FnHulls.l1 k x3 x4 x5 x6 (wrap64 (x7 + 1))))) else (none)) else (none)) else (none))) else (none)) else (none)) else (laws_FnHulls.l0 k x3 x4 x5 (wrap64 (x6 + 1)))
def laws_FnHulls.l2 : Nat → List (S67) → List (S67) → Int → Int → Option (Bool)
 | 0, _, _, _, _ => none
 | k + 1, x3, x4, x5, x8 => if x8 < (x3.length : Int) then (laws_FnHulls.j4 k x3 x4 x5 x8 (x5 == 2)) else (laws_FnHulls.j4 k x3 x4 x5 x8 false)
def laws_FnHulls.j4 : Nat → List (S67) → List (S67) → Int → Int → Bool → Option (Bool)
 | 0, _, _, _, _, _ => none
 | k + 1, x3, x4, x5, x8, x83 => if x83 = true then (if 0 < (x4.length : Int) then (if 1 < (x4.length : Int) then (if 0 ≤ x8 then (if x8 < (x3.length : Int) then ((impl_OnSeg.f ((rd_T67 x4 0).f0) ((rd_T67 x4 0).f1) ((rd_T67 x4 1).f0) ((rd_T67 x4 1).f1) ((rd_T67 x3 x8).f0) ((rd_T67 x3 x8).f1)).bind fun t440 => (if t440 = true then (laws_FnHulls.l2 k x3 x4 x5 (wrap64 (x8 + 1))) else (some false))) else (none)) else (none)) else (none)) else (none)) else ((impl_Hull.f k x4).bind fun t441 => ((laws_samePts.f k t441 x4).bind fun t444 => (if t444 = true then (some (decide (x5 > 0))) else (some false))))
end
def laws_FnHulls.f (k : Nat) (l0 : List Int) : Option (Bool) := (laws_big.f l0).bind fun t419 => (if t419 = true then (some true) else ((spec_DrawHull.f k l0).bind fun t420 => ((impl_Hull.f k t420).bind fun t423 => ((spec_Hull.f k t420).bind fun t426 => (if (t426.length : Int) = 0 then (some ((t423.length : Int) == 0)) else (laws_FnHulls.l0 k t420 t423 (t423.length : Int) 0))))))
def laws_FnHulls.T11 : Bool × List (List Nat × List Nat) := (true, [([], []), ([], []), ([0, 1], [0, 1]), ([2], [2]), ([], []), ([], []), ([5], [5]), ([], []), ([6, 7], [6, 7]), ([4, 8], [4, 8]), ([9], [9]), ([], []), ([], []), ([12], [12]), ([], []), ([13, 14], [13, 14]), ([11, 15], [11, 15]), ([16], [16]), ([3, 10, 17], [3, 10, 17]), ([18], [18])])
def laws_FnHulls.B11 : List Nat := [0, 0, 3, 7, 0, 0, 32, 0, 224, 496, 1008, 0, 0, 4096, 0, 28672, 63488, 129024, 262143, 524287]
theorem laws_FnHulls.tab11 : rtab .any (opsOf Try.f7 11) = laws_FnHulls.T11 := by kernel_rfl
theorem laws_FnHulls.bits11 : waitsOk laws_FnHulls.T11.2 laws_FnHulls.B11 = true := by kernel_rfl
def laws_FnHulls.T16 : Bool × List (List Nat × List Nat) := (true, [([], []), ([], []), ([0, 1], [0, 1]), ([2], [2]), ([], []), ([], []), ([5], [5]), ([], []), ([6, 7], [6, 7]), ([4, 8], [4, 8]), ([9], [9]), ([], []), ([], []), ([11, 12], [11, 12]), ([13], [13]), ([3, 10, 14], [3, 10, 14]), ([15], [15])])
def laws_FnHulls.B16 : List Nat := [0, 0, 3, 7, 0, 0, 32, 0, 224, 496, 1008, 0, 0, 6144, 14336, 32767, 65535]
theorem laws_FnHulls.tab16 : rtab .any (opsOf Try.f7 16) = laws_FnHulls.T16 := by kernel_rfl
theorem laws_FnHulls.bits16 : waitsOk laws_FnHulls.T16.2 laws_FnHulls.B16 = true := by kernel_rfl
def laws_FnHulls.T21 : Bool × List (List Nat × List Nat) := (true, [([], []), ([0], [0]), ([1], [1]), ([], []), ([3], [3]), ([4], [4]), ([], []), ([], []), ([6, 7], [6, 7]), ([8], [8]), ([2, 5, 9], [2, 5, 9]), ([10], [10])])
def laws_FnHulls.B21 : List Nat := [0, 1, 3, 0, 8, 24, 0, 0, 192, 448, 1023, 2047]
theorem laws_FnHulls.tab21 : rtab .any (opsOf Try.f7 21) = laws_FnHulls.T21 := by kernel_rfl
theorem laws_FnHulls.bits21 : waitsOk laws_FnHulls.T21.2 laws_FnHulls.B21 = true := by kernel_rfl
set_option maxHeartbeats 8000000 in
set_option maxRecDepth 100000 in
theorem laws_FnHulls.calls (k : Nat) (A0 : Option Addr) (c0 : Nat) (l0 : List Int) (r : Bool) (w : World) (hr0 : Kd.C (Kd.int .u8) w A0 l0.length l0) (hc0 : l0.length ≤ c0) (h : laws_FnHulls.f k l0 = some r) :
  Calls Try.prog 7 #[.slice A0 l0.length c0] w fun e w' => e = .returned (.bool r) ∧ Below w.heap.size w w' := by
 have hu67 := Try.underlying67
 have HR0 := Ak hr0
 have HC0 := Ak hc0
 clear hr0 hc0
 have HB := Ak (Below.refl w.heap.size w)
 have H : ((laws_big.f l0).bind fun t419 => (if t419 = true then (some true) else ((spec_DrawHull.f k l0).bind fun t420 => ((impl_Hull.f k t420).bind fun t423 => ((spec_Hull.f k t420).bind fun t426 => (if (t426.length : Int) = 0 then (some ((t423.length : Int) == 0)) else (laws_FnHulls.l0 k t420 t423 (t423.length : Int) 0))))))) = some r := h
 clear h
 replace H := Option.bind_eq_some_iff.mp H
 obtain ⟨t419, A20, H⟩ := H
 have A2 := Ak A20
 clear A20
 by_cases c3 : t419 = true
 ·subst c3
  have H1 : (some true) = some r := by rw [if_pos rfl] at H; exact H
  clear H
  have H := H1
  clear H1
  obtain rfl := Option.some.inj H
  go_enter Try.func7, Try.ntmps7
  go_wp2_with (first | ((with_reducible refine gate_callee (f := 25) rfl ?_); refine goesL_ (some 10) rfl rfl Try.func25 (by kernel_rfl) rfl #[.slice A0 l0.length c0] rfl gm ?_; (with_reducible refine (laws_big.calls _ _ l0 true _ ?side1 ?side2 A2.out).mono ?_); (case side1 => exact zq HR0.out); (case side2 => exact HC0.out); rintro e w' ⟨rfl, ⟨nd, rfl⟩⟩; refine ⟨_, rfl, ?_⟩))
  go_ret
  exact ⟨zw, bw HB.out⟩
 ·replace c3 := Bool.eq_false_iff.mpr c3
  subst c3
  have H1 : ((spec_DrawHull.f k l0).bind fun t420 => ((impl_Hull.f k t420).bind fun t423 => ((spec_Hull.f k t420).bind fun t426 => (if (t426.length : Int) = 0 then (some ((t423.length : Int) == 0)) else (laws_FnHulls.l0 k t420 t423 (t423.length : Int) 0))))) = some r := by rw [if_neg (show ¬ (false = true) by decide)] at H; exact H
  clear H
  have H := H1
  clear H1
  replace H := Option.bind_eq_some_iff.mp H
  obtain ⟨t420, A40, H⟩ := H
  have A4 := Ak A40
  clear A40
  replace H := Option.bind_eq_some_iff.mp H
  obtain ⟨t423, A50, H⟩ := H
  have A5 := Ak A50
  clear A50
  replace H := Option.bind_eq_some_iff.mp H
  obtain ⟨t426, A60, H⟩ := H
  have A6 := Ak A60
  clear A60
  by_cases c7 : (t426.length : Int) = 0
  ·rw [if_pos c7] at H
   have c7b0 : ((t426.length : Int) == 0) = true := beq_iff_eq.mpr c7
   have c7b1 : ((t426.length : Int) != 0) = false := bne_eq_false_iff_eq.mpr c7
   clear c7
   obtain rfl := Option.some.inj H
   go_enter Try.func7, Try.ntmps7
   go_wp2_with (first | ((with_reducible refine gate_callee (f := 25) rfl ?_); refine goesL_ (some 10) rfl rfl Try.func25 (by kernel_rfl) rfl #[.slice A0 l0.length c0] rfl gm ?_; (with_reducible refine (laws_big.calls _ _ l0 false _ ?side1 ?side2 A2.out).mono ?_); (case side1 => exact zq HR0.out); (case side2 => exact HC0.out); rintro e w' ⟨rfl, ⟨nd, rfl⟩⟩; refine ⟨_, rfl, ?_⟩) | ((with_reducible refine gate_callee (f := 38) rfl ?_); refine goesL_ (some 12) rfl rfl Try.func38 (by kernel_rfl) rfl #[.slice A0 l0.length c0] rfl gm ?_; (with_reducible refine (spec_DrawHull.calls k _ _ l0 t420 _ ?side1 ?side2 A4.out).mono ?_); (case side1 => exact zq HR0.out); (case side2 => exact HC0.out); rintro e w8 ⟨v421, rfl, ho0, hb⟩; refine ⟨_, rfl, ?_⟩; have HO422 := Ak (Kd.R_lower ho0 (below_size (bw HB.out))); replace HB := Ak (below_step (bw HB.out) hb); obtain ⟨Ao9, co9, eo9⟩ := Kd.R_slice HO422.out; subst eo9) | ((with_reducible refine gate_callee (f := 34) rfl ?_); refine goesL_ (some 14) rfl rfl Try.func34 (by kernel_rfl) rfl #[.slice Ao9 t420.length co9] rfl gm ?_; (with_reducible refine (impl_Hull.calls k _ _ t420 t423 _ ?side1 ?side2 A5.out).mono ?_); (case side1 => repeat (first | exact (Kd.R_reads' HO422.out).2.2 | (with_reducible refine Kd.C_alloc ?_ _) | (with_reducible refine Kd.C_drewN ?_ _) | (with_reducible refine Kd.C_drew ?_))); (case side2 => exact (Kd.R_reads' HO422.out).2.1); rintro e w10 ⟨v424, rfl, u424, hcl424_, ho0, hb⟩; refine ⟨_, rfl, ?_⟩; have HO425 := Ak (Kd.R_lower (Kd.R_new' ho0 (Kd.R_lt (rq HO422.out))) (below_size (bw HB.out))); replace HO422 := Ak (Kd.R_elder' (rq HO422.out) (Kd.R_base ho0) hb); replace HB := Ak (below_step (bw HB.out) hb)) | ((with_reducible refine gate_callee (f := 32) rfl ?_); refine goesL_ (some 16) rfl rfl Try.func32 (by kernel_rfl) rfl #[.slice Ao9 t420.length co9] rfl gm ?_; (with_reducible refine (spec_Hull.calls k _ _ t420 t426 _ ?side1 ?side2 A6.out).mono ?_); (case side1 => repeat (first | exact (Kd.R_reads' HO422.out).2.2 | (with_reducible refine Kd.C_alloc ?_ _) | (with_reducible refine Kd.C_drewN ?_ _) | (with_reducible refine Kd.C_drew ?_))); (case side2 => exact (Kd.R_reads' HO422.out).2.1); rintro e w11 ⟨v427, rfl, ho0, hb⟩; refine ⟨_, rfl, ?_⟩; have HO428 := Ak (Kd.R_lower (Kd.R_new' (Kd.R_new' ho0 (Kd.R_lt (rq HO422.out))) (Kd.R_lt (rq HO425.out))) (below_size (bw HB.out))); replace HO422 := Ak (Kd.R_elder' (rq HO422.out) (Kd.R_base ho0) hb); replace HO425 := Ak (Kd.R_elder' (rq HO425.out) (Kd.R_base ho0) hb); replace HB := Ak (below_step (bw HB.out) hb); obtain ⟨Ao12, co12, eo12⟩ := Kd.R_slice HO428.out; subst eo12; obtain ⟨Ao13, co13, eo13⟩ := Kd.R_slice HO425.out; subst eo13; obtain ⟨A_, n_, c_, cq13, e1_, e2_, hq_⟩ := hcl424_; injection e1_ with f1_ f2_ f3_; subst f1_; subst f2_; subst f3_; subst e2_; have HQ425 := Ak hq_; clear hq_))
   go_ret
   exact ⟨zw, bw HB.out⟩
  ·rw [if_neg c7] at H
   have c7b0 : ((t426.length : Int) == 0) = false := beq_eq_false_iff_ne.mpr c7
   have c7b1 : ((t426.length : Int) != 0) = true := bne_iff_ne.mpr c7
   have c7b2 : ¬ (t426 = []) := fun h_ => c7 (by rw [h_]; rfl)
   have H' := Ak H
   clear H
   go_enter Try.func7, Try.ntmps7
   go_wp2_with (first | ((with_reducible refine gate_callee (f := 25) rfl ?_); refine goesL_ (some 10) rfl rfl Try.func25 (by kernel_rfl) rfl #[.slice A0 l0.length c0] rfl gm ?_; (with_reducible refine (laws_big.calls _ _ l0 false _ ?side1 ?side2 A2.out).mono ?_); (case side1 => exact zq HR0.out); (case side2 => exact HC0.out); rintro e w' ⟨rfl, ⟨nd, rfl⟩⟩; refine ⟨_, rfl, ?_⟩) | ((with_reducible refine gate_callee (f := 38) rfl ?_); refine goesL_ (some 12) rfl rfl Try.func38 (by kernel_rfl) rfl #[.slice A0 l0.length c0] rfl gm ?_; (with_reducible refine (spec_DrawHull.calls k _ _ l0 t420 _ ?side1 ?side2 A4.out).mono ?_); (case side1 => exact zq HR0.out); (case side2 => exact HC0.out); rintro e w14 ⟨v421, rfl, ho0, hb⟩; refine ⟨_, rfl, ?_⟩; have HO422 := Ak (Kd.R_lower ho0 (below_size (bw HB.out))); replace HB := Ak (below_step (bw HB.out) hb); obtain ⟨Ao15, co15, eo15⟩ := Kd.R_slice HO422.out; subst eo15) | ((with_reducible refine gate_callee (f := 34) rfl ?_); refine goesL_ (some 14) rfl rfl Try.func34 (by kernel_rfl) rfl #[.slice Ao15 t420.length co15] rfl gm ?_; (with_reducible refine (impl_Hull.calls k _ _ t420 t423 _ ?side1 ?side2 A5.out).mono ?_); (case side1 => repeat (first | exact (Kd.R_reads' HO422.out).2.2 | (with_reducible refine Kd.C_alloc ?_ _) | (with_reducible refine Kd.C_drewN ?_ _) | (with_reducible refine Kd.C_drew ?_))); (case side2 => exact (Kd.R_reads' HO422.out).2.1); rintro e w16 ⟨v424, rfl, u424, hcl424_, ho0, hb⟩; refine ⟨_, rfl, ?_⟩; have HO425 := Ak (Kd.R_lower (Kd.R_new' ho0 (Kd.R_lt (rq HO422.out))) (below_size (bw HB.out))); replace HO422 := Ak (Kd.R_elder' (rq HO422.out) (Kd.R_base ho0) hb); replace HB := Ak (below_step (bw HB.out) hb)) | ((with_reducible refine gate_callee (f := 32) rfl ?_); refine goesL_ (some 16) rfl rfl Try.func32 (by kernel_rfl) rfl #[.slice Ao15 t420.length co15] rfl gm ?_; (with_reducible refine (spec_Hull.calls k _ _ t420 t426 _ ?side1 ?side2 A6.out).mono ?_); (case side1 => repeat (first | exact (Kd.R_reads' HO422.out).2.2 | (with_reducible refine Kd.C_alloc ?_ _) | (with_reducible refine Kd.C_drewN ?_ _) | (with_reducible refine Kd.C_drew ?_))); (case side2 => exact (Kd.R_reads' HO422.out).2.1); rintro e w17 ⟨v427, rfl, ho0, hb⟩; refine ⟨_, rfl, ?_⟩; have HO428 := Ak (Kd.R_lower (Kd.R_new' (Kd.R_new' ho0 (Kd.R_lt (rq HO422.out))) (Kd.R_lt (rq HO425.out))) (below_size (bw HB.out))); replace HO422 := Ak (Kd.R_elder' (rq HO422.out) (Kd.R_base ho0) hb); replace HO425 := Ak (Kd.R_elder' (rq HO425.out) (Kd.R_base ho0) hb); replace HB := Ak (below_step (bw HB.out) hb); obtain ⟨Ao18, co18, eo18⟩ := Kd.R_slice HO428.out; subst eo18; obtain ⟨Ao19, co19, eo19⟩ := Kd.R_slice HO425.out; subst eo19; obtain ⟨A_, n_, c_, cq19, e1_, e2_, hq_⟩ := hcl424_; injection e1_ with f1_ f2_ f3_; subst f1_; subst f2_; subst f3_; subst e2_; have HQ425 := Ak hq_; clear hq_))
   go_loopg [6] k (fun kq v6 w' => ∃ (x6_1 : Int), v6 = .int .i64 x6_1 ∧ Aside0 (laws_FnHulls.l0 kq t420 t423 (t423.length : Int) x6_1 = some r) ∧ Aside0 (kq ≤ k) ∧ Aside0 (Kd.R k67 67 w' w.heap.size (fun k_ => some k_ ≠ ((.slice Ao19 t423.length co19) : Value).ownBlock) (.slice Ao15 t420.length co15) t420) ∧ Aside0 (Kd.R k67 67 w' w.heap.size (fun k_ => some k_ ≠ ((.slice Ao15 t420.length co15) : Value).ownBlock) (.slice Ao19 t423.length co19) t423) ∧ Aside0 (Below w.heap.size w w'))
   case atStart => exact ⟨(0), (by first | rfl | (simp; done) | (simp [*]; done)), H', ⟨Nat.le_refl _⟩, ⟨by refine rq ?_; exact Kd.R_mono HO422.out (fun _ hk => hk.1.2)⟩, ⟨by refine rq ?_; exact Kd.R_mono HO425.out (fun _ hk => hk.1.2)⟩, ⟨bw HB.out⟩⟩
   case round =>
    clear H'
    try clear c7b0
    try clear c7b1
    try clear c7b2
    obtain ⟨x6_1, rfl, HA, HK1, HO_3, HO_4, HB⟩ := hrel
    cases gk with
    | zero => exact absurd HA.out (by simp [laws_FnHulls.l0])
    | succ k1 =>
     have H := HA.out
     clear HA
     simp only [laws_FnHulls.l0] at H
     have HC20 := Ak H
     clear H
     go_upto_region 9 with (fail)
     go_cut [30] (fun v30 wc => ∃ (kq : Nat) (x30_19 : Bool), v30 = .bool x30_19 ∧ Aside0 (laws_FnHulls.j1 kq t420 t423 (t423.length : Int) x6_1 x30_19 = some r) ∧ Aside0 (kq ≤ k1) ∧ Aside0 (Kd.R k67 67 wc w.heap.size (fun k_ => some k_ ≠ ((.slice Ao19 t423.length co19) : Value).ownBlock) (.slice Ao15 t420.length co15) t420) ∧ Aside0 (Kd.R k67 67 wc w.heap.size (fun k_ => some k_ ≠ ((.slice Ao15 t420.length co15) : Value).ownBlock) (.slice Ao19 t423.length co19) t423) ∧ Aside0 (Below w.heap.size w wc))
     case first =>
      have H := HC20.out
      clear HC20
      by_cases c21 : x6_1 < (t423.length : Int)
      ·rw [if_pos c21] at H
       have c21b0 : decide (x6_1 < (t423.length : Int)) = true := decide_eq_true c21
       clear c21
       (first | rw [c21b0] | (simp only [i64_w, i32_w]; rw [c21b0]) | skip)
       have H' := Ak H
       clear H
       go_wp2
       go_meet
       case rel => exact ⟨_, (decide ((t423.length : Int) > 2)), (by first | rfl | (simp; done) | (simp [*]; done)), H', ⟨by have := HK1.out; first | omega | exact Nat.le_refl _⟩, ⟨rq HO_3.out⟩, ⟨rq HO_4.out⟩, ⟨bw HB.out⟩⟩
      ·rw [if_neg c21] at H
       have c21b0 : decide (x6_1 < (t423.length : Int)) = false := decide_eq_false c21
       clear c21
       (first | rw [c21b0] | (simp only [i64_w, i32_w]; rw [c21b0]) | skip)
       have H' := Ak H
       clear H
       go_wp2
       go_meet
       case rel => exact ⟨_, (false), (by first | rfl | (simp; done) | (simp [*]; done)), H', ⟨by have := HK1.out; first | omega | exact Nat.le_refl _⟩, ⟨rq HO_3.out⟩, ⟨rq HO_4.out⟩, ⟨bw HB.out⟩⟩
     case rest =>
      clear HC20
      try clear c7b0
      try clear c7b1
      try clear c7b2
      try clear c21b0
      obtain ⟨kq, x30_19, rfl, HA, HJ19, HO_3, HO_4, HB⟩ := hcut
      cases kq with
      | zero => exact absurd HA.out (by simp [laws_FnHulls.j1])
      | succ kj19 =>
       have H := HA.out
       clear HA
       simp only [laws_FnHulls.j1] at H
       by_cases c22 : x30_19 = true
       ·subst c22
        have H1 : (if 0 ≤ x6_1 then (if x6_1 < (t423.length : Int) then (if (t423.length : Int) = 0 then (none) else (if 0 ≤ (Int.tmod (wrap64 (x6_1 + 1)) (t423.length : Int)) then (if (Int.tmod (wrap64 (x6_1 + 1)) (t423.length : Int)) < (t423.length : Int) then (if 0 ≤ (Int.tmod (wrap64 (x6_1 + 2)) (t423.length : Int)) then (if (Int.tmod (wrap64 (x6_1 + 2)) (t423.length : Int)) < (t423.length : Int) then ((impl_Turn.f ((rd_T67 t423 x6_1).f0) ((rd_T67 t423 x6_1).f1) ((rd_T67 t423 (Int.tmod (wrap64 (x6_1 + 1)) (t423.length : Int))).f0) ((rd_T67 t423 (Int.tmod (wrap64 (x6_1 + 1)) (t423.length : Int))).f1) ((rd_T67 t423 (Int.tmod (wrap64 (x6_1 + 2)) (t423.length : Int))).f0) ((rd_T67 t423 (Int.tmod (wrap64 (x6_1 + 2)) (t423.length : Int))).f1)).bind fun t432 => (if t432 = 1 then (laws_FnHulls.l1 kj19 t420 t423 (t423.length : Int) x6_1 0) else (some false))) else (none)) else (none)) else (none)) else (none))) else (none)) else (none)) = some r := by rw [if_pos rfl] at H; exact H
        clear H
        have H := H1
        clear H1
        by_cases c23 : 0 ≤ x6_1
        ·rw [if_pos c23] at H
         have c23b0 : decide (0 ≤ x6_1) = true := decide_eq_true c23
         clear c23
         by_cases c24 : x6_1 < (t423.length : Int)
         ·rw [if_pos c24] at H
          have c24b0 : decide (x6_1 < (t423.length : Int)) = true := decide_eq_true c24
          clear c24
          by_cases c25 : (t423.length : Int) = 0
          ·rw [if_pos c25] at H
           exact absurd H (by simp)
          ·rw [if_neg c25] at H
           have c25b0 : ((t423.length : Int) == 0) = false := beq_eq_false_iff_ne.mpr c25
           have c25b1 : ((t423.length : Int) != 0) = true := bne_iff_ne.mpr c25
           have c25b2 : ¬ (t423 = []) := fun h_ => c25 (by rw [h_]; rfl)
           obtain ⟨ji26, hji26⟩ : ∃ j_ : Int, (Int.tmod (wrap64 (x6_1 + 1)) (t423.length : Int)) = j_ := ⟨_, rfl⟩
           replace H : (if 0 ≤ (ji26) then (if (ji26) < (t423.length : Int) then (if 0 ≤ (Int.tmod (wrap64 (x6_1 + 2)) (t423.length : Int)) then (if (Int.tmod (wrap64 (x6_1 + 2)) (t423.length : Int)) < (t423.length : Int) then ((impl_Turn.f ((rd_T67 t423 x6_1).f0) ((rd_T67 t423 x6_1).f1) ((rd_T67 t423 (ji26)).f0) ((rd_T67 t423 (ji26)).f1) ((rd_T67 t423 (Int.tmod (wrap64 (x6_1 + 2)) (t423.length : Int))).f0) ((rd_T67 t423 (Int.tmod (wrap64 (x6_1 + 2)) (t423.length : Int))).f1)).bind fun t432 => (if t432 = 1 then (laws_FnHulls.l1 kj19 t420 t423 (t423.length : Int) x6_1 0) else (some false))) else (none)) else (none)) else (none)) else (none)) = some r := by first | (rw [hji26] at H; exact H) | (simp only [hji26] at H ⊢; exact H)
           by_cases c27 : 0 ≤ (ji26)
           ·rw [if_pos c27] at H
            have c27b0 : decide (0 ≤ (ji26)) = true := decide_eq_true c27
            clear c27
            by_cases c28 : (ji26) < (t423.length : Int)
            ·rw [if_pos c28] at H
             have c28b0 : decide ((ji26) < (t423.length : Int)) = true := decide_eq_true c28
             clear c28
             obtain ⟨ji29, hji29⟩ : ∃ j_ : Int, (Int.tmod (wrap64 (x6_1 + 2)) (t423.length : Int)) = j_ := ⟨_, rfl⟩
             replace H : (if 0 ≤ (ji29) then (if (ji29) < (t423.length : Int) then ((impl_Turn.f ((rd_T67 t423 x6_1).f0) ((rd_T67 t423 x6_1).f1) ((rd_T67 t423 (ji26)).f0) ((rd_T67 t423 (ji26)).f1) ((rd_T67 t423 (ji29)).f0) ((rd_T67 t423 (ji29)).f1)).bind fun t432 => (if t432 = 1 then (laws_FnHulls.l1 kj19 t420 t423 (t423.length : Int) x6_1 0) else (some false))) else (none)) else (none)) = some r := by first | (rw [hji29] at H; exact H) | (simp only [hji29] at H ⊢; exact H)
             by_cases c30 : 0 ≤ (ji29)
             ·rw [if_pos c30] at H
              have c30b0 : decide (0 ≤ (ji29)) = true := decide_eq_true c30
              clear c30
              by_cases c31 : (ji29) < (t423.length : Int)
              ·rw [if_pos c31] at H
               have c31b0 : decide ((ji29) < (t423.length : Int)) = true := decide_eq_true c31
               clear c31
               replace H := Option.bind_eq_some_iff.mp H
               obtain ⟨t432, A320, H⟩ := H
               have A32 := Ak A320
               clear A320
               by_cases c33 : t432 = 1
               ·rw [if_pos c33] at H
                have c33b0 : (t432 == 1) = true := beq_iff_eq.mpr c33
                have c33b1 : (t432 != 1) = false := bne_eq_false_iff_eq.mpr c33
                clear c33
                have H' := Ak H
                clear H
                try go_wp2
                replace HO_3 := Ak (Kd.R_drew HO_3.out)
                replace HO_4 := Ak (Kd.R_drew HO_4.out)
                replace HB := Ak (below_drew1 HB.out)
                have p429 : 0 ≤ (x6_1 : Int) := of_decide_eq_true (by first | (with_reducible assumption) | assumption)
                have q429 : x6_1 < (t423.length : Int) := of_decide_eq_true (by first | (with_reducible assumption) | assumption)
                obtain ⟨ad429, e429, hx429_0, hx429_1⟩ := at_T67 (Kd.R_reads' HO_4.out).2.2 x6_1 p429 q429
                cases e429
                replace p429 := eq_true p429
                replace q429 := eq_true q429
                have p430 : 0 ≤ ((ji26) : Int) := of_decide_eq_true (by first | (with_reducible assumption) | assumption)
                have q430 : (ji26) < (t423.length : Int) := of_decide_eq_true (by first | (with_reducible assumption) | assumption)
                obtain ⟨ad430, e430, hx430_0, hx430_1⟩ := at_T67 (Kd.R_reads' HO_4.out).2.2 (ji26) p430 q430
                obtain rfl : ad429 = ad430 := (by injection e430)
                replace p430 := eq_true p430
                replace q430 := eq_true q430
                have p431 : 0 ≤ ((ji29) : Int) := of_decide_eq_true (by first | (with_reducible assumption) | assumption)
                have q431 : (ji29) < (t423.length : Int) := of_decide_eq_true (by first | (with_reducible assumption) | assumption)
                obtain ⟨ad431, e431, hx431_0, hx431_1⟩ := at_T67 (Kd.R_reads' HO_4.out).2.2 (ji29) p431 q431
                obtain rfl : ad429 = ad431 := (by injection e431)
                replace p431 := eq_true p431
                replace q431 := eq_true q431
                refine start_ (n := 20) (S := fun w' => w'.cell? (ad429.add ((x6_1).toNat * 2)) = some (.int .i64 ((rd_T67 t423 x6_1).f0)) ∧ w'.cell? ⟨(ad429.add ((x6_1).toNat * 2)).block, (ad429.add ((x6_1).toNat * 2)).off + 1, none⟩ = some (.int .i64 ((rd_T67 t423 x6_1).f1)) ∧ w'.cell? (ad429.add (((ji26)).toNat * 2)) = some (.int .i64 ((rd_T67 t423 (ji26)).f0)) ∧ w'.cell? ⟨(ad429.add (((ji26)).toNat * 2)).block, (ad429.add (((ji26)).toNat * 2)).off + 1, none⟩ = some (.int .i64 ((rd_T67 t423 (ji26)).f1)) ∧ w'.cell? (ad429.add (((ji29)).toNat * 2)) = some (.int .i64 ((rd_T67 t423 (ji29)).f0)) ∧ w'.cell? ⟨(ad429.add (((ji29)).toNat * 2)).block, (ad429.add (((ji29)).toNat * 2)).off + 1, none⟩ = some (.int .i64 ((rd_T67 t423 (ji29)).f1))) (ds := []) #[false, false, false, false, false, false, false, false, false, false, false, false, false, false, false, false, false, false, false, false] (by kernel_rfl) rfl rfl ⟨hx429_0, hx429_1, hx430_0, hx430_1, hx431_0, hx431_1⟩ (fun hHeld => ?_); refine with_tabW laws_FnHulls.tab11 laws_FnHulls.bits11 (fun HT_ HW_ => ?_)
                generalize wc.drew = w34 at HO_3 HO_4 HB hx429_0 hx429_1 hx430_0 hx430_1 hx431_0 hx431_1 hHeld ⊢
                refine pure_ (i := 0) (N := some 33) (v := ?_) (a' := ?_) #[true, false, false, false, false, false, false, false, false, false, false, false, false, false, false, false, false, false, false, false] rfl rfl (any_of HT_.out (by kernel_rfl)) (fun _ _ _ h => h) (Or.inl ⟨by rfl, ?_⟩) ?_ ?_
                rotate_left
                ·intro w'
                 go_simp
                 with_reducible rfl
                rotate_left
                ·simp only [Act.put, sT, sZ, sS, i64_w, i32_w]
                 rfl
                refine pure_ (i := 1) (N := some 34) (v := ?_) (a' := ?_) #[true, true, false, false, false, false, false, false, false, false, false, false, false, false, false, false, false, false, false, false] rfl rfl (any_of HT_.out (by kernel_rfl)) (fun _ _ _ h => h) (Or.inl ⟨by rfl, ?_⟩) ?_ ?_
                rotate_left
                ·intro w'
                 go_simp
                 with_reducible rfl
                rotate_left
                ·simp only [Act.put, sT, sZ, sS, i64_w, i32_w]
                 rfl
                refine pure_ (i := 2) (N := some 35) (v := ?_) (a' := ?_) #[true, true, true, false, false, false, false, false, false, false, false, false, false, false, false, false, false, false, false, false] rfl rfl (any_of HT_.out (by kernel_rfl)) (fun _ _ _ h => h) (Or.inl ⟨by rfl, ?_⟩) ?_ ?_
                rotate_left
                ·intro w'
                 go_simp
                 with_reducible rfl
                rotate_left
                ·simp only [Act.put, sT, sZ, sS, i64_w, i32_w]
                 rfl
                refine pure_ (i := 4) (N := some 37) (v := ?_) (a' := ?_) #[true, true, true, false, true, false, false, false, false, false, false, false, false, false, false, false, false, false, false, false] rfl rfl (any_of HT_.out (by kernel_rfl)) (fun _ _ _ h => h) (Or.inl ⟨by rfl, ?_⟩) ?_ ?_
                rotate_left
                ·intro w'
                 go_simp
                 with_reducible rfl
                rotate_left
                ·simp only [Act.put, sT, sZ, sS, i64_w, i32_w]
                 rfl
                refine pure_ (i := 5) (N := some 38) (v := ?_) (a' := ?_) #[true, true, true, false, true, true, false, false, false, false, false, false, false, false, false, false, false, false, false, false] rfl rfl (any_of HT_.out (by kernel_rfl)) (fun _ _ _ h => h) (Or.inl ⟨by rfl, ?_⟩) ?_ ?_
                rotate_left
                ·intro w'
                 go_simp
                 with_reducible rfl
                rotate_left
                ·simp only [Act.put, sT, sZ, sS, i64_w, i32_w]
                 rfl
                refine pure_ (i := 6) (N := some 39) (v := ?_) (a' := ?_) #[true, true, true, false, true, true, true, false, false, false, false, false, false, false, false, false, false, false, false, false] rfl rfl (any_of HT_.out (by kernel_rfl)) (fun _ _ _ h => h) (Or.inl ⟨by rfl, ?_⟩) ?_ ?_
                rotate_left
                ·intro w'
                 go_simp
                 with_reducible rfl
                rotate_left
                ·simp only [Act.put, sT, sZ, sS, i64_w, i32_w]
                 rfl
                refine pure_ (i := 7) (N := some 40) (v := ?_) (a' := ?_) #[true, true, true, false, true, true, true, true, false, false, false, false, false, false, false, false, false, false, false, false] rfl rfl (any_of HT_.out (by kernel_rfl)) (fun _ _ _ h => h) (Or.inl ⟨by rfl, ?_⟩) ?_ ?_
                rotate_left
                ·intro w'
                 go_simp
                 with_reducible rfl
                rotate_left
                ·simp only [Act.put, sT, sZ, sS, i64_w, i32_w]
                 rfl
                refine pure_ (i := 8) (N := some 41) (v := ?_) (a' := ?_) #[true, true, true, false, true, true, true, true, true, false, false, false, false, false, false, false, false, false, false, false] rfl rfl (any_of HT_.out (by kernel_rfl)) (fun _ _ _ h => h) (Or.inl ⟨by rfl, ?_⟩) ?_ ?_
                rotate_left
                ·intro w'
                 go_simp
                 with_reducible rfl
                rotate_left
                ·simp only [Act.put, sT, sZ, sS, i64_w, i32_w]
                 rfl
                refine pure_ (i := 9) (N := some 42) (v := ?_) (a' := ?_) #[true, true, true, false, true, true, true, true, true, true, false, false, false, false, false, false, false, false, false, false] rfl rfl (any_of HT_.out (by kernel_rfl)) (fun _ _ _ h => h) (Or.inl ⟨by rfl, ?_⟩) ?_ ?_
                rotate_left
                ·intro w'
                 go_simp
                 with_reducible rfl
                rotate_left
                ·simp only [Act.put, sT, sZ, sS, i64_w, i32_w]
                 rfl
                refine pure_ (i := 11) (N := some 44) (v := ?_) (a' := ?_) #[true, true, true, false, true, true, true, true, true, true, false, true, false, false, false, false, false, false, false, false] rfl rfl (any_of HT_.out (by kernel_rfl)) (fun _ _ _ h => h) (Or.inl ⟨by rfl, ?_⟩) ?_ ?_
                rotate_left
                ·intro w'
                 go_simp
                 with_reducible rfl
                rotate_left
                ·simp only [Act.put, sT, sZ, sS, i64_w, i32_w]
                 rfl
                refine pure_ (i := 12) (N := some 45) (v := ?_) (a' := ?_) #[true, true, true, false, true, true, true, true, true, true, false, true, true, false, false, false, false, false, false, false] rfl rfl (any_of HT_.out (by kernel_rfl)) (fun _ _ _ h => h) (Or.inl ⟨by rfl, ?_⟩) ?_ ?_
                rotate_left
                ·intro w'
                 go_simp
                 with_reducible rfl
                rotate_left
                ·simp only [Act.put, sT, sZ, sS, i64_w, i32_w]
                 rfl
                refine pure_ (i := 13) (N := some 46) (v := ?_) (a' := ?_) #[true, true, true, false, true, true, true, true, true, true, false, true, true, true, false, false, false, false, false, false] rfl rfl (any_of HT_.out (by kernel_rfl)) (fun _ _ _ h => h) (Or.inl ⟨by rfl, ?_⟩) ?_ ?_
                rotate_left
                ·intro w'
                 go_simp
                 with_reducible rfl
                rotate_left
                ·simp only [Act.put, sT, sZ, sS, i64_w, i32_w]
                 rfl
                refine pure_ (i := 14) (N := some 47) (v := ?_) (a' := ?_) #[true, true, true, false, true, true, true, true, true, true, false, true, true, true, true, false, false, false, false, false] rfl rfl (any_of HT_.out (by kernel_rfl)) (fun _ _ _ h => h) (Or.inl ⟨by rfl, ?_⟩) ?_ ?_
                rotate_left
                ·intro w'
                 go_simp
                 with_reducible rfl
                rotate_left
                ·simp only [Act.put, sT, sZ, sS, i64_w, i32_w]
                 rfl
                refine pure_ (i := 15) (N := some 48) (v := ?_) (a' := ?_) #[true, true, true, false, true, true, true, true, true, true, false, true, true, true, true, true, false, false, false, false] rfl rfl (any_of HT_.out (by kernel_rfl)) (fun _ _ _ h => h) (Or.inl ⟨by rfl, ?_⟩) ?_ ?_
                rotate_left
                ·intro w'
                 go_simp
                 with_reducible rfl
                rotate_left
                ·simp only [Act.put, sT, sZ, sS, i64_w, i32_w]
                 rfl
                refine pure_ (i := 16) (N := some 49) (v := ?_) (a' := ?_) #[true, true, true, false, true, true, true, true, true, true, false, true, true, true, true, true, true, false, false, false] rfl rfl (any_of HT_.out (by kernel_rfl)) (fun _ _ _ h => h) (Or.inl ⟨by rfl, ?_⟩) ?_ ?_
                rotate_left
                ·intro w'
                 go_simp
                 with_reducible rfl
                rotate_left
                ·simp only [Act.put, sT, sZ, sS, i64_w, i32_w]
                 rfl
                refine take_ (i := 3) (N := some 36) (v := ?_) (a' := ?_) #[true, true, true, true, true, true, true, true, true, true, false, true, true, true, true, true, true, false, false, false] rfl rfl (take_ofW HT_.out HW_.out (by kernel_rfl)) (fun _ _ _ h => h) (Or.inl ⟨by rfl, ?_⟩) hHeld ?_ ?_
                rotate_left
                ·rintro w' ⟨s0, s1, s2, s3, s4, s5⟩
                 go_simp
                 with_reducible rfl
                rotate_left
                ·simp only [Act.put, sT, sZ, sS, i64_w, i32_w]
                 rfl
                refine take_ (i := 10) (N := some 43) (v := ?_) (a' := ?_) #[true, true, true, true, true, true, true, true, true, true, true, true, true, true, true, true, true, false, false, false] rfl rfl (take_ofW HT_.out HW_.out (by kernel_rfl)) (fun _ _ _ h => h) (Or.inl ⟨by rfl, ?_⟩) hHeld ?_ ?_
                rotate_left
                ·rintro w' ⟨s0, s1, s2, s3, s4, s5⟩
                 go_simp
                 with_reducible rfl
                rotate_left
                ·simp only [Act.put, sT, sZ, sS, i64_w, i32_w]
                 rfl
                refine take_ (i := 17) (N := some 50) (v := ?_) (a' := ?_) #[true, true, true, true, true, true, true, true, true, true, true, true, true, true, true, true, true, true, false, false] rfl rfl (take_ofW HT_.out HW_.out (by kernel_rfl)) (fun _ _ _ h => h) (Or.inl ⟨by rfl, ?_⟩) hHeld ?_ ?_
                rotate_left
                ·rintro w' ⟨s0, s1, s2, s3, s4, s5⟩
                 go_simp
                 with_reducible rfl
                rotate_left
                ·simp only [Act.put, sT, sZ, sS, i64_w, i32_w]
                 rfl
                refine one_ (i := 18) (N := some 51) #[true, true, true, true, true, true, true, true, true, true, true, true, true, true, true, true, true, true, true, false] rfl rfl (one_of HT_.out (by kernel_rfl)) (by decide) (fun K hK => ?_)
                refine goes_ Try.func39 (by kernel_rfl) rfl #[.agg #[.int .i64 ((rd_T67 t423 x6_1).f0), .int .i64 ((rd_T67 t423 x6_1).f1)], .agg #[.int .i64 ((rd_T67 t423 (ji26)).f0), .int .i64 ((rd_T67 t423 (ji26)).f1)], .agg #[.int .i64 ((rd_T67 t423 (ji29)).f0), .int .i64 ((rd_T67 t423 (ji29)).f1)]] (by rfl) rfl rfl (by (try simp only [List.map_toArray, List.map_cons, List.map_nil]); first | done | (simp only [hji26, hji29]; rfl) | rfl | (simp only [List.length_drop, List.length_take]; rfl)) ?_
                with_reducible refine (impl_Turn.calls ((rd_T67 t423 x6_1).f0) ((rd_T67 t423 x6_1).f1) ((rd_T67 t423 (ji26)).f0) ((rd_T67 t423 (ji26)).f1) ((rd_T67 t423 (ji29)).f0) ((rd_T67 t423 (ji29)).f1) t432 _ A32.out).mono ?_
                rintro e w35 ⟨rfl, hb⟩
                have HS0_ := (hb.cell (World.block_lt_of_cell? _ _ hHeld.1)).trans hHeld.1
                have HS1_ := (hb.cell (World.block_lt_of_cell? _ _ hHeld.2.1)).trans hHeld.2.1
                have HS2_ := (hb.cell (World.block_lt_of_cell? _ _ hHeld.2.2.1)).trans hHeld.2.2.1
                have HS3_ := (hb.cell (World.block_lt_of_cell? _ _ hHeld.2.2.2.1)).trans hHeld.2.2.2.1
                have HS4_ := (hb.cell (World.block_lt_of_cell? _ _ hHeld.2.2.2.2.1)).trans hHeld.2.2.2.2.1
                have HS5_ := (hb.cell (World.block_lt_of_cell? _ _ hHeld.2.2.2.2.2)).trans hHeld.2.2.2.2.2
                refine ⟨_, rfl, ?_⟩
                replace HO_3 := Ak (Kd.R_below (rq HO_3.out) hb)
                replace HO_4 := Ak (Kd.R_below (rq HO_4.out) hb)
                replace HB := Ak (below_step (bw HB.out) hb)
                refine hK.out _ _ ⟨HS0_, HS1_, HS2_, HS3_, HS4_, HS5_⟩ (fun hHeld => ?_)
                clear hK K
                refine norm_ (a' := ?_) ?_ ?_
                rotate_left
                ·show Act.put _ (some 51) _ = _
                 simp only [Act.put, sT, sZ, sS, i64_w, i32_w]
                 rfl
                refine pure_ (i := 19) (N := some 52) (v := ?_) (a' := ?_) #[true, true, true, true, true, true, true, true, true, true, true, true, true, true, true, true, true, true, true, true] rfl rfl (any_of HT_.out (by kernel_rfl)) (fun _ _ _ h => h) (Or.inl ⟨by rfl, ?_⟩) ?_ ?_
                rotate_left
                ·intro w'
                 go_simp
                 with_reducible rfl
                rotate_left
                ·simp only [Act.put, sT, sZ, sS, i64_w, i32_w]
                 rfl
                refine done_ (done_of HT_.out (by kernel_rfl)) ?_
                try go_wp2
                go_loopg [7] kj19 (fun kq v7 w' => ∃ (x7_3 : Int), v7 = .int .i64 x7_3 ∧ Aside0 (laws_FnHulls.l1 kq t420 t423 (t423.length : Int) x6_1 x7_3 = some r) ∧ Aside0 (kq ≤ kj19) ∧ Aside0 (Kd.R k67 67 w' w.heap.size (fun k_ => some k_ ≠ ((.slice (some ad429) t423.length co19) : Value).ownBlock) (.slice Ao15 t420.length co15) t420) ∧ Aside0 (Kd.R k67 67 w' w.heap.size (fun k_ => some k_ ≠ ((.slice Ao15 t420.length co15) : Value).ownBlock) (.slice (some ad429) t423.length co19) t423) ∧ Aside0 (Below w.heap.size w w'))
                case atStart => exact ⟨(0), (by first | rfl | (simp; done) | (simp [*]; done)), H', ⟨Nat.le_refl _⟩, ⟨rq HO_3.out⟩, ⟨rq HO_4.out⟩, ⟨bw HB.out⟩⟩
                case round =>
                 clear H'
                 try clear q4
                 try clear hx4
                 try clear c7b0
                 try clear c7b1
                 try clear c7b2
                 try clear c21b0
                 try clear c23b0
                 try clear c24b0
                 try clear c25b0
                 try clear c25b1
                 try clear c25b2
                 try clear c27b0
                 try clear c28b0
                 try clear c30b0
                 try clear c31b0
                 try clear c33b0
                 try clear c33b1
                 try clear hx429_0
                 try clear hx429_1
                 try clear hx430_0
                 try clear hx430_1
                 try clear hx431_0
                 try clear hx431_1
                 try clear q429
                 try clear q430
                 try clear q431
                 obtain ⟨x7_3, rfl, HA, HK3, HO_3, HO_4, HB⟩ := hrel
                 cases gk with
                 | zero => exact absurd HA.out (by simp [laws_FnHulls.l1])
                 | succ k3 =>
                  have H := HA.out
                  clear HA
                  simp only [laws_FnHulls.l1] at H
                  by_cases c36 : x7_3 < (t420.length : Int)
                  ·rw [if_pos c36] at H
                   have c36b0 : decide (x7_3 < (t420.length : Int)) = true := decide_eq_true c36
                   clear c36
                   by_cases c37 : 0 ≤ x6_1
                   ·rw [if_pos c37] at H
                    have c37b0 : decide (0 ≤ x6_1) = true := decide_eq_true c37
                    clear c37
                    by_cases c38 : x6_1 < (t423.length : Int)
                    ·rw [if_pos c38] at H
                     have c38b0 : decide (x6_1 < (t423.length : Int)) = true := decide_eq_true c38
                     clear c38
                     by_cases c39 : (t423.length : Int) = 0
                     ·rw [if_pos c39] at H
                      exact absurd H (by simp)
                     ·rw [if_neg c39] at H
                      have c39b0 : ((t423.length : Int) == 0) = false := beq_eq_false_iff_ne.mpr c39
                      have c39b1 : ((t423.length : Int) != 0) = true := bne_iff_ne.mpr c39
                      have c39b2 : ¬ (t423 = []) := fun h_ => c39 (by rw [h_]; rfl)
                      try clear hji26
                      obtain ⟨ji40, hji40⟩ : ∃ j_ : Int, (Int.tmod (wrap64 (x6_1 + 1)) (t423.length : Int)) = j_ := ⟨_, rfl⟩
                      replace H : (if 0 ≤ (ji40) then (if (ji40) < (t423.length : Int) then (if 0 ≤ x7_3 then ((impl_Turn.f ((rd_T67 t423 x6_1).f0) ((rd_T67 t423 x6_1).f1) ((rd_T67 t423 (ji40)).f0) ((rd_T67 t423 (ji40)).f1) ((rd_T67 t420 x7_3).f0) ((rd_T67 t420 x7_3).f1)).bind fun t436 => (if t436 < 0 then (some false) else (laws_FnHulls.l1 k3 t420 t423 (t423.length : Int) x6_1 (wrap64 (x7_3 + 1))))) else (none)) else (none)) else (none)) = some r := by first | (rw [hji40] at H; exact H) | (simp only [hji40] at H ⊢; exact H)
                      by_cases c41 : 0 ≤ (ji40)
                      ·rw [if_pos c41] at H
                       have c41b0 : decide (0 ≤ (ji40)) = true := decide_eq_true c41
                       clear c41
                       by_cases c42 : (ji40) < (t423.length : Int)
                       ·rw [if_pos c42] at H
                        have c42b0 : decide ((ji40) < (t423.length : Int)) = true := decide_eq_true c42
                        clear c42
                        by_cases c43 : 0 ≤ x7_3
                        ·rw [if_pos c43] at H
                         have c43b0 : decide (0 ≤ x7_3) = true := decide_eq_true c43
                         clear c43
                         replace H := Option.bind_eq_some_iff.mp H
                         obtain ⟨t436, A440, H⟩ := H
                         have A44 := Ak A440
                         clear A440
                         by_cases c45 : t436 < 0
                         ·rw [if_pos c45] at H
                          have c45b0 : decide (t436 < 0) = true := decide_eq_true c45
                          clear c45
                          obtain rfl := Option.some.inj H
                          try go_wp2
                          replace HO_3 := Ak (Kd.R_drew HO_3.out)
                          replace HO_4 := Ak (Kd.R_drew HO_4.out)
                          replace HB := Ak (below_drew1 HB.out)
                          have p433 : 0 ≤ (x6_1 : Int) := of_decide_eq_true (by first | (with_reducible assumption) | assumption)
                          have q433 : x6_1 < (t423.length : Int) := of_decide_eq_true (by first | (with_reducible assumption) | assumption)
                          obtain ⟨ad433, e433, hx433_0, hx433_1⟩ := at_T67 (Kd.R_reads' HO_4.out).2.2 x6_1 p433 q433
                          obtain rfl : ad429 = ad433 := (by injection e433)
                          replace p433 := eq_true p433
                          replace q433 := eq_true q433
                          have p434 : 0 ≤ ((ji40) : Int) := of_decide_eq_true (by first | (with_reducible assumption) | assumption)
                          have q434 : (ji40) < (t423.length : Int) := of_decide_eq_true (by first | (with_reducible assumption) | assumption)
                          obtain ⟨ad434, e434, hx434_0, hx434_1⟩ := at_T67 (Kd.R_reads' HO_4.out).2.2 (ji40) p434 q434
                          obtain rfl : ad429 = ad434 := (by injection e434)
                          replace p434 := eq_true p434
                          replace q434 := eq_true q434
                          have p435 : 0 ≤ (x7_3 : Int) := of_decide_eq_true (by first | (with_reducible assumption) | assumption)
                          have q435 : x7_3 < (t420.length : Int) := of_decide_eq_true (by first | (with_reducible assumption) | assumption)
                          obtain ⟨ad435, e435, hx435_0, hx435_1⟩ := at_T67 (Kd.R_reads' HO_3.out).2.2 x7_3 p435 q435
                          cases e435
                          replace p435 := eq_true p435
                          replace q435 := eq_true q435
                          refine start_ (n := 17) (S := fun w' => w'.cell? (ad429.add ((x6_1).toNat * 2)) = some (.int .i64 ((rd_T67 t423 x6_1).f0)) ∧ w'.cell? ⟨(ad429.add ((x6_1).toNat * 2)).block, (ad429.add ((x6_1).toNat * 2)).off + 1, none⟩ = some (.int .i64 ((rd_T67 t423 x6_1).f1)) ∧ w'.cell? (ad429.add (((ji40)).toNat * 2)) = some (.int .i64 ((rd_T67 t423 (ji40)).f0)) ∧ w'.cell? ⟨(ad429.add (((ji40)).toNat * 2)).block, (ad429.add (((ji40)).toNat * 2)).off + 1, none⟩ = some (.int .i64 ((rd_T67 t423 (ji40)).f1)) ∧ w'.cell? (ad435.add ((x7_3).toNat * 2)) = some (.int .i64 ((rd_T67 t420 x7_3).f0)) ∧ w'.cell? ⟨(ad435.add ((x7_3).toNat * 2)).block, (ad435.add ((x7_3).toNat * 2)).off + 1, none⟩ = some (.int .i64 ((rd_T67 t420 x7_3).f1))) (ds := []) #[false, false, false, false, false, false, false, false, false, false, false, false, false, false, false, false, false] (by kernel_rfl) rfl rfl ⟨hx433_0, hx433_1, hx434_0, hx434_1, hx435_0, hx435_1⟩ (fun hHeld => ?_); refine with_tabW laws_FnHulls.tab16 laws_FnHulls.bits16 (fun HT_ HW_ => ?_)
                          generalize wr.drew = w46 at HO_3 HO_4 HB hx433_0 hx433_1 hx434_0 hx434_1 hx435_0 hx435_1 hHeld ⊢
                          refine pure_ (i := 0) (N := some 59) (v := ?_) (a' := ?_) #[true, false, false, false, false, false, false, false, false, false, false, false, false, false, false, false, false] rfl rfl (any_of HT_.out (by kernel_rfl)) (fun _ _ _ h => h) (Or.inl ⟨by rfl, ?_⟩) ?_ ?_
                          rotate_left
                          ·intro w'
                           go_simp
                           with_reducible rfl
                          rotate_left
                          ·simp only [Act.put, sT, sZ, sS, i64_w, i32_w]
                           rfl
                          refine pure_ (i := 1) (N := some 60) (v := ?_) (a' := ?_) #[true, true, false, false, false, false, false, false, false, false, false, false, false, false, false, false, false] rfl rfl (any_of HT_.out (by kernel_rfl)) (fun _ _ _ h => h) (Or.inl ⟨by rfl, ?_⟩) ?_ ?_
                          rotate_left
                          ·intro w'
                           go_simp
                           with_reducible rfl
                          rotate_left
                          ·simp only [Act.put, sT, sZ, sS, i64_w, i32_w]
                           rfl
                          refine pure_ (i := 2) (N := some 61) (v := ?_) (a' := ?_) #[true, true, true, false, false, false, false, false, false, false, false, false, false, false, false, false, false] rfl rfl (any_of HT_.out (by kernel_rfl)) (fun _ _ _ h => h) (Or.inl ⟨by rfl, ?_⟩) ?_ ?_
                          rotate_left
                          ·intro w'
                           go_simp
                           with_reducible rfl
                          rotate_left
                          ·simp only [Act.put, sT, sZ, sS, i64_w, i32_w]
                           rfl
                          refine pure_ (i := 4) (N := some 63) (v := ?_) (a' := ?_) #[true, true, true, false, true, false, false, false, false, false, false, false, false, false, false, false, false] rfl rfl (any_of HT_.out (by kernel_rfl)) (fun _ _ _ h => h) (Or.inl ⟨by rfl, ?_⟩) ?_ ?_
                          rotate_left
                          ·intro w'
                           go_simp
                           with_reducible rfl
                          rotate_left
                          ·simp only [Act.put, sT, sZ, sS, i64_w, i32_w]
                           rfl
                          refine pure_ (i := 5) (N := some 64) (v := ?_) (a' := ?_) #[true, true, true, false, true, true, false, false, false, false, false, false, false, false, false, false, false] rfl rfl (any_of HT_.out (by kernel_rfl)) (fun _ _ _ h => h) (Or.inl ⟨by rfl, ?_⟩) ?_ ?_
                          rotate_left
                          ·intro w'
                           go_simp
                           with_reducible rfl
                          rotate_left
                          ·simp only [Act.put, sT, sZ, sS, i64_w, i32_w]
                           rfl
                          refine pure_ (i := 6) (N := some 65) (v := ?_) (a' := ?_) #[true, true, true, false, true, true, true, false, false, false, false, false, false, false, false, false, false] rfl rfl (any_of HT_.out (by kernel_rfl)) (fun _ _ _ h => h) (Or.inl ⟨by rfl, ?_⟩) ?_ ?_
                          rotate_left
                          ·intro w'
                           go_simp
                           with_reducible rfl
                          rotate_left
                          ·simp only [Act.put, sT, sZ, sS, i64_w, i32_w]
                           rfl
                          refine pure_ (i := 7) (N := some 66) (v := ?_) (a' := ?_) #[true, true, true, false, true, true, true, true, false, false, false, false, false, false, false, false, false] rfl rfl (any_of HT_.out (by kernel_rfl)) (fun _ _ _ h => h) (Or.inl ⟨by rfl, ?_⟩) ?_ ?_
                          rotate_left
                          ·intro w'
                           go_simp
                           with_reducible rfl
                          rotate_left
                          ·simp only [Act.put, sT, sZ, sS, i64_w, i32_w]
                           rfl
                          refine pure_ (i := 8) (N := some 67) (v := ?_) (a' := ?_) #[true, true, true, false, true, true, true, true, true, false, false, false, false, false, false, false, false] rfl rfl (any_of HT_.out (by kernel_rfl)) (fun _ _ _ h => h) (Or.inl ⟨by rfl, ?_⟩) ?_ ?_
                          rotate_left
                          ·intro w'
                           go_simp
                           with_reducible rfl
                          rotate_left
                          ·simp only [Act.put, sT, sZ, sS, i64_w, i32_w]
                           rfl
                          refine pure_ (i := 9) (N := some 68) (v := ?_) (a' := ?_) #[true, true, true, false, true, true, true, true, true, true, false, false, false, false, false, false, false] rfl rfl (any_of HT_.out (by kernel_rfl)) (fun _ _ _ h => h) (Or.inl ⟨by rfl, ?_⟩) ?_ ?_
                          rotate_left
                          ·intro w'
                           go_simp
                           with_reducible rfl
                          rotate_left
                          ·simp only [Act.put, sT, sZ, sS, i64_w, i32_w]
                           rfl
                          refine pure_ (i := 11) (N := some 70) (v := ?_) (a' := ?_) #[true, true, true, false, true, true, true, true, true, true, false, true, false, false, false, false, false] rfl rfl (any_of HT_.out (by kernel_rfl)) (fun _ _ _ h => h) (Or.inl ⟨by rfl, ?_⟩) ?_ ?_
                          rotate_left
                          ·intro w'
                           go_simp
                           with_reducible rfl
                          rotate_left
                          ·simp only [Act.put, sT, sZ, sS, i64_w, i32_w]
                           rfl
                          refine pure_ (i := 12) (N := some 71) (v := ?_) (a' := ?_) #[true, true, true, false, true, true, true, true, true, true, false, true, true, false, false, false, false] rfl rfl (any_of HT_.out (by kernel_rfl)) (fun _ _ _ h => h) (Or.inl ⟨by rfl, ?_⟩) ?_ ?_
                          rotate_left
                          ·intro w'
                           go_simp
                           with_reducible rfl
                          rotate_left
                          ·simp only [Act.put, sT, sZ, sS, i64_w, i32_w]
                           rfl
                          refine pure_ (i := 13) (N := some 72) (v := ?_) (a' := ?_) #[true, true, true, false, true, true, true, true, true, true, false, true, true, true, false, false, false] rfl rfl (any_of HT_.out (by kernel_rfl)) (fun _ _ _ h => h) (Or.inl ⟨by rfl, ?_⟩) ?_ ?_
                          rotate_left
                          ·intro w'
                           go_simp
                           with_reducible rfl
                          rotate_left
                          ·simp only [Act.put, sT, sZ, sS, i64_w, i32_w]
                           rfl
                          refine take_ (i := 3) (N := some 62) (v := ?_) (a' := ?_) #[true, true, true, true, true, true, true, true, true, true, false, true, true, true, false, false, false] rfl rfl (take_ofW HT_.out HW_.out (by kernel_rfl)) (fun _ _ _ h => h) (Or.inl ⟨by rfl, ?_⟩) hHeld ?_ ?_
                          rotate_left
                          ·rintro w' ⟨s0, s1, s2, s3, s4, s5⟩
                           go_simp
                           with_reducible rfl
                          rotate_left
                          ·simp only [Act.put, sT, sZ, sS, i64_w, i32_w]
                           rfl
                          refine take_ (i := 10) (N := some 69) (v := ?_) (a' := ?_) #[true, true, true, true, true, true, true, true, true, true, true, true, true, true, false, false, false] rfl rfl (take_ofW HT_.out HW_.out (by kernel_rfl)) (fun _ _ _ h => h) (Or.inl ⟨by rfl, ?_⟩) hHeld ?_ ?_
                          rotate_left
                          ·rintro w' ⟨s0, s1, s2, s3, s4, s5⟩
                           go_simp
                           with_reducible rfl
                          rotate_left
                          ·simp only [Act.put, sT, sZ, sS, i64_w, i32_w]
                           rfl
                          refine take_ (i := 14) (N := some 73) (v := ?_) (a' := ?_) #[true, true, true, true, true, true, true, true, true, true, true, true, true, true, true, false, false] rfl rfl (take_ofW HT_.out HW_.out (by kernel_rfl)) (fun _ _ _ h => h) (Or.inl ⟨by rfl, ?_⟩) hHeld ?_ ?_
                          rotate_left
                          ·rintro w' ⟨s0, s1, s2, s3, s4, s5⟩
                           go_simp
                           with_reducible rfl
                          rotate_left
                          ·simp only [Act.put, sT, sZ, sS, i64_w, i32_w]
                           rfl
                          refine one_ (i := 15) (N := some 74) #[true, true, true, true, true, true, true, true, true, true, true, true, true, true, true, true, false] rfl rfl (one_of HT_.out (by kernel_rfl)) (by decide) (fun K hK => ?_)
                          refine goes_ Try.func39 (by kernel_rfl) rfl #[.agg #[.int .i64 ((rd_T67 t423 x6_1).f0), .int .i64 ((rd_T67 t423 x6_1).f1)], .agg #[.int .i64 ((rd_T67 t423 (ji40)).f0), .int .i64 ((rd_T67 t423 (ji40)).f1)], .agg #[.int .i64 ((rd_T67 t420 x7_3).f0), .int .i64 ((rd_T67 t420 x7_3).f1)]] (by rfl) rfl rfl (by (try simp only [List.map_toArray, List.map_cons, List.map_nil]); first | done | (simp only [hji40]; rfl) | rfl | (simp only [List.length_drop, List.length_take]; rfl)) ?_
                          with_reducible refine (impl_Turn.calls ((rd_T67 t423 x6_1).f0) ((rd_T67 t423 x6_1).f1) ((rd_T67 t423 (ji40)).f0) ((rd_T67 t423 (ji40)).f1) ((rd_T67 t420 x7_3).f0) ((rd_T67 t420 x7_3).f1) t436 _ A44.out).mono ?_
                          rintro e w47 ⟨rfl, hb⟩
                          have HS0_ := (hb.cell (World.block_lt_of_cell? _ _ hHeld.1)).trans hHeld.1
                          have HS1_ := (hb.cell (World.block_lt_of_cell? _ _ hHeld.2.1)).trans hHeld.2.1
                          have HS2_ := (hb.cell (World.block_lt_of_cell? _ _ hHeld.2.2.1)).trans hHeld.2.2.1
                          have HS3_ := (hb.cell (World.block_lt_of_cell? _ _ hHeld.2.2.2.1)).trans hHeld.2.2.2.1
                          have HS4_ := (hb.cell (World.block_lt_of_cell? _ _ hHeld.2.2.2.2.1)).trans hHeld.2.2.2.2.1
                          have HS5_ := (hb.cell (World.block_lt_of_cell? _ _ hHeld.2.2.2.2.2)).trans hHeld.2.2.2.2.2
                          refine ⟨_, rfl, ?_⟩
                          replace HO_3 := Ak (Kd.R_below (rq HO_3.out) hb)
                          replace HO_4 := Ak (Kd.R_below (rq HO_4.out) hb)
                          replace HB := Ak (below_step (bw HB.out) hb)
                          refine hK.out _ _ ⟨HS0_, HS1_, HS2_, HS3_, HS4_, HS5_⟩ (fun hHeld => ?_)
                          clear hK K
                          refine norm_ (a' := ?_) ?_ ?_
                          rotate_left
                          ·show Act.put _ (some 74) _ = _
                           simp only [Act.put, sT, sZ, sS, i64_w, i32_w]
                           rfl
                          refine pure_ (i := 16) (N := some 75) (v := ?_) (a' := ?_) #[true, true, true, true, true, true, true, true, true, true, true, true, true, true, true, true, true] rfl rfl (any_of HT_.out (by kernel_rfl)) (fun _ _ _ h => h) (Or.inl ⟨by rfl, ?_⟩) ?_ ?_
                          rotate_left
                          ·intro w'
                           go_simp
                           with_reducible rfl
                          rotate_left
                          ·simp only [Act.put, sT, sZ, sS, i64_w, i32_w]
                           rfl
                          refine done_ (done_of HT_.out (by kernel_rfl)) ?_
                          try go_wp2
                          go_ret
                          exact ⟨by first | rfl | (simp [errW_none, errW_some] <;> rfl) | (simp only [← hji26, ← hji29, ← hji40]; first | rfl | (simp [errW_none, errW_some] <;> rfl)) | (simp [*, errW_none, errW_some] <;> rfl), bw HB.out⟩
                         ·rw [if_neg c45] at H
                          have c45b0 : decide (t436 < 0) = false := decide_eq_false c45
                          clear c45
                          have H' := Ak H
                          clear H
                          try go_wp2
                          replace HO_3 := Ak (Kd.R_drew HO_3.out)
                          replace HO_4 := Ak (Kd.R_drew HO_4.out)
                          replace HB := Ak (below_drew1 HB.out)
                          have p433 : 0 ≤ (x6_1 : Int) := of_decide_eq_true (by first | (with_reducible assumption) | assumption)
                          have q433 : x6_1 < (t423.length : Int) := of_decide_eq_true (by first | (with_reducible assumption) | assumption)
                          obtain ⟨ad433, e433, hx433_0, hx433_1⟩ := at_T67 (Kd.R_reads' HO_4.out).2.2 x6_1 p433 q433
                          obtain rfl : ad429 = ad433 := (by injection e433)
                          replace p433 := eq_true p433
                          replace q433 := eq_true q433
                          have p434 : 0 ≤ ((ji40) : Int) := of_decide_eq_true (by first | (with_reducible assumption) | assumption)
                          have q434 : (ji40) < (t423.length : Int) := of_decide_eq_true (by first | (with_reducible assumption) | assumption)
                          obtain ⟨ad434, e434, hx434_0, hx434_1⟩ := at_T67 (Kd.R_reads' HO_4.out).2.2 (ji40) p434 q434
                          obtain rfl : ad429 = ad434 := (by injection e434)
                          replace p434 := eq_true p434
                          replace q434 := eq_true q434
                          have p435 : 0 ≤ (x7_3 : Int) := of_decide_eq_true (by first | (with_reducible assumption) | assumption)
                          have q435 : x7_3 < (t420.length : Int) := of_decide_eq_true (by first | (with_reducible assumption) | assumption)
                          obtain ⟨ad435, e435, hx435_0, hx435_1⟩ := at_T67 (Kd.R_reads' HO_3.out).2.2 x7_3 p435 q435
                          cases e435
                          replace p435 := eq_true p435
                          replace q435 := eq_true q435
                          refine start_ (n := 17) (S := fun w' => w'.cell? (ad429.add ((x6_1).toNat * 2)) = some (.int .i64 ((rd_T67 t423 x6_1).f0)) ∧ w'.cell? ⟨(ad429.add ((x6_1).toNat * 2)).block, (ad429.add ((x6_1).toNat * 2)).off + 1, none⟩ = some (.int .i64 ((rd_T67 t423 x6_1).f1)) ∧ w'.cell? (ad429.add (((ji40)).toNat * 2)) = some (.int .i64 ((rd_T67 t423 (ji40)).f0)) ∧ w'.cell? ⟨(ad429.add (((ji40)).toNat * 2)).block, (ad429.add (((ji40)).toNat * 2)).off + 1, none⟩ = some (.int .i64 ((rd_T67 t423 (ji40)).f1)) ∧ w'.cell? (ad435.add ((x7_3).toNat * 2)) = some (.int .i64 ((rd_T67 t420 x7_3).f0)) ∧ w'.cell? ⟨(ad435.add ((x7_3).toNat * 2)).block, (ad435.add ((x7_3).toNat * 2)).off + 1, none⟩ = some (.int .i64 ((rd_T67 t420 x7_3).f1))) (ds := []) #[false, false, false, false, false, false, false, false, false, false, false, false, false, false, false, false, false] (by kernel_rfl) rfl rfl ⟨hx433_0, hx433_1, hx434_0, hx434_1, hx435_0, hx435_1⟩ (fun hHeld => ?_); refine with_tabW laws_FnHulls.tab16 laws_FnHulls.bits16 (fun HT_ HW_ => ?_)
                          generalize wr.drew = w48 at HO_3 HO_4 HB hx433_0 hx433_1 hx434_0 hx434_1 hx435_0 hx435_1 hHeld ⊢
                          refine pure_ (i := 0) (N := some 59) (v := ?_) (a' := ?_) #[true, false, false, false, false, false, false, false, false, false, false, false, false, false, false, false, false] rfl rfl (any_of HT_.out (by kernel_rfl)) (fun _ _ _ h => h) (Or.inl ⟨by rfl, ?_⟩) ?_ ?_
                          rotate_left
                          ·intro w'
                           go_simp
                           with_reducible rfl
                          rotate_left
                          ·simp only [Act.put, sT, sZ, sS, i64_w, i32_w]
                           rfl
                          refine pure_ (i := 1) (N := some 60) (v := ?_) (a' := ?_) #[true, true, false, false, false, false, false, false, false, false, false, false, false, false, false, false, false] rfl rfl (any_of HT_.out (by kernel_rfl)) (fun _ _ _ h => h) (Or.inl ⟨by rfl, ?_⟩) ?_ ?_
                          rotate_left
                          ·intro w'
                           go_simp
                           with_reducible rfl
                          rotate_left
                          ·simp only [Act.put, sT, sZ, sS, i64_w, i32_w]
                           rfl
                          refine pure_ (i := 2) (N := some 61) (v := ?_) (a' := ?_) #[true, true, true, false, false, false, false, false, false, false, false, false, false, false, false, false, false] rfl rfl (any_of HT_.out (by kernel_rfl)) (fun _ _ _ h => h) (Or.inl ⟨by rfl, ?_⟩) ?_ ?_
                          rotate_left
                          ·intro w'
                           go_simp
                           with_reducible rfl
                          rotate_left
                          ·simp only [Act.put, sT, sZ, sS, i64_w, i32_w]
                           rfl
                          refine pure_ (i := 4) (N := some 63) (v := ?_) (a' := ?_) #[true, true, true, false, true, false, false, false, false, false, false, false, false, false, false, false, false] rfl rfl (any_of HT_.out (by kernel_rfl)) (fun _ _ _ h => h) (Or.inl ⟨by rfl, ?_⟩) ?_ ?_
                          rotate_left
                          ·intro w'
                           go_simp
                           with_reducible rfl
                          rotate_left
                          ·simp only [Act.put, sT, sZ, sS, i64_w, i32_w]
                           rfl
                          refine pure_ (i := 5) (N := some 64) (v := ?_) (a' := ?_) #[true, true, true, false, true, true, false, false, false, false, false, false, false, false, false, false, false] rfl rfl (any_of HT_.out (by kernel_rfl)) (fun _ _ _ h => h) (Or.inl ⟨by rfl, ?_⟩) ?_ ?_
                          rotate_left
                          ·intro w'
                           go_simp
                           with_reducible rfl
                          rotate_left
                          ·simp only [Act.put, sT, sZ, sS, i64_w, i32_w]
                           rfl
                          refine pure_ (i := 6) (N := some 65) (v := ?_) (a' := ?_) #[true, true, true, false, true, true, true, false, false, false, false, false, false, false, false, false, false] rfl rfl (any_of HT_.out (by kernel_rfl)) (fun _ _ _ h => h) (Or.inl ⟨by rfl, ?_⟩) ?_ ?_
                          rotate_left
                          ·intro w'
                           go_simp
                           with_reducible rfl
                          rotate_left
                          ·simp only [Act.put, sT, sZ, sS, i64_w, i32_w]
                           rfl
                          refine pure_ (i := 7) (N := some 66) (v := ?_) (a' := ?_) #[true, true, true, false, true, true, true, true, false, false, false, false, false, false, false, false, false] rfl rfl (any_of HT_.out (by kernel_rfl)) (fun _ _ _ h => h) (Or.inl ⟨by rfl, ?_⟩) ?_ ?_
                          rotate_left
                          ·intro w'
                           go_simp
                           with_reducible rfl
                          rotate_left
                          ·simp only [Act.put, sT, sZ, sS, i64_w, i32_w]
                           rfl
                          refine pure_ (i := 8) (N := some 67) (v := ?_) (a' := ?_) #[true, true, true, false, true, true, true, true, true, false, false, false, false, false, false, false, false] rfl rfl (any_of HT_.out (by kernel_rfl)) (fun _ _ _ h => h) (Or.inl ⟨by rfl, ?_⟩) ?_ ?_
                          rotate_left
                          ·intro w'
                           go_simp
                           with_reducible rfl
                          rotate_left
                          ·simp only [Act.put, sT, sZ, sS, i64_w, i32_w]
                           rfl
                          refine pure_ (i := 9) (N := some 68) (v := ?_) (a' := ?_) #[true, true, true, false, true, true, true, true, true, true, false, false, false, false, false, false, false] rfl rfl (any_of HT_.out (by kernel_rfl)) (fun _ _ _ h => h) (Or.inl ⟨by rfl, ?_⟩) ?_ ?_
                          rotate_left
                          ·intro w'
                           go_simp
                           with_reducible rfl
                          rotate_left
                          ·simp only [Act.put, sT, sZ, sS, i64_w, i32_w]
                           rfl
                          refine pure_ (i := 11) (N := some 70) (v := ?_) (a' := ?_) #[true, true, true, false, true, true, true, true, true, true, false, true, false, false, false, false, false] rfl rfl (any_of HT_.out (by kernel_rfl)) (fun _ _ _ h => h) (Or.inl ⟨by rfl, ?_⟩) ?_ ?_
                          rotate_left
                          ·intro w'
                           go_simp
                           with_reducible rfl
                          rotate_left
                          ·simp only [Act.put, sT, sZ, sS, i64_w, i32_w]
                           rfl
                          refine pure_ (i := 12) (N := some 71) (v := ?_) (a' := ?_) #[true, true, true, false, true, true, true, true, true, true, false, true, true, false, false, false, false] rfl rfl (any_of HT_.out (by kernel_rfl)) (fun _ _ _ h => h) (Or.inl ⟨by rfl, ?_⟩) ?_ ?_
                          rotate_left
                          ·intro w'
                           go_simp
                           with_reducible rfl
                          rotate_left
                          ·simp only [Act.put, sT, sZ, sS, i64_w, i32_w]
                           rfl
                          refine pure_ (i := 13) (N := some 72) (v := ?_) (a' := ?_) #[true, true, true, false, true, true, true, true, true, true, false, true, true, true, false, false, false] rfl rfl (any_of HT_.out (by kernel_rfl)) (fun _ _ _ h => h) (Or.inl ⟨by rfl, ?_⟩) ?_ ?_
                          rotate_left
                          ·intro w'
                           go_simp
                           with_reducible rfl
                          rotate_left
                          ·simp only [Act.put, sT, sZ, sS, i64_w, i32_w]
                           rfl
                          refine take_ (i := 3) (N := some 62) (v := ?_) (a' := ?_) #[true, true, true, true, true, true, true, true, true, true, false, true, true, true, false, false, false] rfl rfl (take_ofW HT_.out HW_.out (by kernel_rfl)) (fun _ _ _ h => h) (Or.inl ⟨by rfl, ?_⟩) hHeld ?_ ?_
                          rotate_left
                          ·rintro w' ⟨s0, s1, s2, s3, s4, s5⟩
                           go_simp
                           with_reducible rfl
                          rotate_left
                          ·simp only [Act.put, sT, sZ, sS, i64_w, i32_w]
                           rfl
                          refine take_ (i := 10) (N := some 69) (v := ?_) (a' := ?_) #[true, true, true, true, true, true, true, true, true, true, true, true, true, true, false, false, false] rfl rfl (take_ofW HT_.out HW_.out (by kernel_rfl)) (fun _ _ _ h => h) (Or.inl ⟨by rfl, ?_⟩) hHeld ?_ ?_
                          rotate_left
                          ·rintro w' ⟨s0, s1, s2, s3, s4, s5⟩
                           go_simp
                           with_reducible rfl
                          rotate_left
                          ·simp only [Act.put, sT, sZ, sS, i64_w, i32_w]
                           rfl
                          refine take_ (i := 14) (N := some 73) (v := ?_) (a' := ?_) #[true, true, true, true, true, true, true, true, true, true, true, true, true, true, true, false, false] rfl rfl (take_ofW HT_.out HW_.out (by kernel_rfl)) (fun _ _ _ h => h) (Or.inl ⟨by rfl, ?_⟩) hHeld ?_ ?_
                          rotate_left
                          ·rintro w' ⟨s0, s1, s2, s3, s4, s5⟩
                           go_simp
                           with_reducible rfl
                          rotate_left
                          ·simp only [Act.put, sT, sZ, sS, i64_w, i32_w]
                           rfl
                          refine one_ (i := 15) (N := some 74) #[true, true, true, true, true, true, true, true, true, true, true, true, true, true, true, true, false] rfl rfl (one_of HT_.out (by kernel_rfl)) (by decide) (fun K hK => ?_)
                          refine goes_ Try.func39 (by kernel_rfl) rfl #[.agg #[.int .i64 ((rd_T67 t423 x6_1).f0), .int .i64 ((rd_T67 t423 x6_1).f1)], .agg #[.int .i64 ((rd_T67 t423 (ji40)).f0), .int .i64 ((rd_T67 t423 (ji40)).f1)], .agg #[.int .i64 ((rd_T67 t420 x7_3).f0), .int .i64 ((rd_T67 t420 x7_3).f1)]] (by rfl) rfl rfl (by (try simp only [List.map_toArray, List.map_cons, List.map_nil]); first | done | (simp only [hji40]; rfl) | rfl | (simp only [List.length_drop, List.length_take]; rfl)) ?_
                          with_reducible refine (impl_Turn.calls ((rd_T67 t423 x6_1).f0) ((rd_T67 t423 x6_1).f1) ((rd_T67 t423 (ji40)).f0) ((rd_T67 t423 (ji40)).f1) ((rd_T67 t420 x7_3).f0) ((rd_T67 t420 x7_3).f1) t436 _ A44.out).mono ?_
                          rintro e w49 ⟨rfl, hb⟩
                          have HS0_ := (hb.cell (World.block_lt_of_cell? _ _ hHeld.1)).trans hHeld.1
                          have HS1_ := (hb.cell (World.block_lt_of_cell? _ _ hHeld.2.1)).trans hHeld.2.1
                          have HS2_ := (hb.cell (World.block_lt_of_cell? _ _ hHeld.2.2.1)).trans hHeld.2.2.1
                          have HS3_ := (hb.cell (World.block_lt_of_cell? _ _ hHeld.2.2.2.1)).trans hHeld.2.2.2.1
                          have HS4_ := (hb.cell (World.block_lt_of_cell? _ _ hHeld.2.2.2.2.1)).trans hHeld.2.2.2.2.1
                          have HS5_ := (hb.cell (World.block_lt_of_cell? _ _ hHeld.2.2.2.2.2)).trans hHeld.2.2.2.2.2
                          refine ⟨_, rfl, ?_⟩
                          replace HO_3 := Ak (Kd.R_below (rq HO_3.out) hb)
                          replace HO_4 := Ak (Kd.R_below (rq HO_4.out) hb)
                          replace HB := Ak (below_step (bw HB.out) hb)
                          refine hK.out _ _ ⟨HS0_, HS1_, HS2_, HS3_, HS4_, HS5_⟩ (fun hHeld => ?_)
                          clear hK K
                          refine norm_ (a' := ?_) ?_ ?_
                          rotate_left
                          ·show Act.put _ (some 74) _ = _
                           simp only [Act.put, sT, sZ, sS, i64_w, i32_w]
                           rfl
                          refine pure_ (i := 16) (N := some 75) (v := ?_) (a' := ?_) #[true, true, true, true, true, true, true, true, true, true, true, true, true, true, true, true, true] rfl rfl (any_of HT_.out (by kernel_rfl)) (fun _ _ _ h => h) (Or.inl ⟨by rfl, ?_⟩) ?_ ?_
                          rotate_left
                          ·intro w'
                           go_simp
                           with_reducible rfl
                          rotate_left
                          ·simp only [Act.put, sT, sZ, sS, i64_w, i32_w]
                           rfl
                          refine done_ (done_of HT_.out (by kernel_rfl)) ?_
                          try go_wp2
                          go_roundg k3
                          case measure => have := HK1.out; have := HJ19.out; have := HK3.out; omega
                          case rel => exact ⟨(wrap64 (x7_3 + 1)), (by first | rfl | (simp; done) | (simp [*]; done)), H', ⟨by have := HK1.out; have := HJ19.out; have := HK3.out; omega⟩, ⟨rq HO_3.out⟩, ⟨rq HO_4.out⟩, ⟨bw HB.out⟩⟩
                        ·rw [if_neg c43] at H
                         exact absurd H (by simp)
                       ·rw [if_neg c42] at H
                        exact absurd H (by simp)
                      ·rw [if_neg c41] at H
                       exact absurd H (by simp)
                    ·rw [if_neg c38] at H
                     exact absurd H (by simp)
                   ·rw [if_neg c37] at H
                    exact absurd H (by simp)
                  ·rw [if_neg c36] at H
                   have c36b0 : decide (x7_3 < (t420.length : Int)) = false := decide_eq_false c36
                   clear c36
                   have H' := Ak H
                   clear H
                   go_wp2
                   go_roundg k3
                   case measure => have := HK1.out; have := HJ19.out; have := HK3.out; omega
                   case rel => exact ⟨(wrap64 (x6_1 + 1)), (by first | rfl | (simp; done) | (simp [*]; done)), H', ⟨by have := HK1.out; have := HJ19.out; have := HK3.out; omega⟩, ⟨rq HO_3.out⟩, ⟨rq HO_4.out⟩, ⟨bw HB.out⟩⟩
               ·rw [if_neg c33] at H
                have c33b0 : (t432 == 1) = false := beq_eq_false_iff_ne.mpr c33
                have c33b1 : (t432 != 1) = true := bne_iff_ne.mpr c33
                obtain rfl := Option.some.inj H
                try go_wp2
                replace HO_3 := Ak (Kd.R_drew HO_3.out)
                replace HO_4 := Ak (Kd.R_drew HO_4.out)
                replace HB := Ak (below_drew1 HB.out)
                have p429 : 0 ≤ (x6_1 : Int) := of_decide_eq_true (by first | (with_reducible assumption) | assumption)
                have q429 : x6_1 < (t423.length : Int) := of_decide_eq_true (by first | (with_reducible assumption) | assumption)
                obtain ⟨ad429, e429, hx429_0, hx429_1⟩ := at_T67 (Kd.R_reads' HO_4.out).2.2 x6_1 p429 q429
                cases e429
                replace p429 := eq_true p429
                replace q429 := eq_true q429
                have p430 : 0 ≤ ((ji26) : Int) := of_decide_eq_true (by first | (with_reducible assumption) | assumption)
                have q430 : (ji26) < (t423.length : Int) := of_decide_eq_true (by first | (with_reducible assumption) | assumption)
                obtain ⟨ad430, e430, hx430_0, hx430_1⟩ := at_T67 (Kd.R_reads' HO_4.out).2.2 (ji26) p430 q430
                obtain rfl : ad429 = ad430 := (by injection e430)
                replace p430 := eq_true p430
                replace q430 := eq_true q430
                have p431 : 0 ≤ ((ji29) : Int) := of_decide_eq_true (by first | (with_reducible assumption) | assumption)
                have q431 : (ji29) < (t423.length : Int) := of_decide_eq_true (by first | (with_reducible assumption) | assumption)
                obtain ⟨ad431, e431, hx431_0, hx431_1⟩ := at_T67 (Kd.R_reads' HO_4.out).2.2 (ji29) p431 q431
                obtain rfl : ad429 = ad431 := (by injection e431)
                replace p431 := eq_true p431
                replace q431 := eq_true q431
                refine start_ (n := 20) (S := fun w' => w'.cell? (ad429.add ((x6_1).toNat * 2)) = some (.int .i64 ((rd_T67 t423 x6_1).f0)) ∧ w'.cell? ⟨(ad429.add ((x6_1).toNat * 2)).block, (ad429.add ((x6_1).toNat * 2)).off + 1, none⟩ = some (.int .i64 ((rd_T67 t423 x6_1).f1)) ∧ w'.cell? (ad429.add (((ji26)).toNat * 2)) = some (.int .i64 ((rd_T67 t423 (ji26)).f0)) ∧ w'.cell? ⟨(ad429.add (((ji26)).toNat * 2)).block, (ad429.add (((ji26)).toNat * 2)).off + 1, none⟩ = some (.int .i64 ((rd_T67 t423 (ji26)).f1)) ∧ w'.cell? (ad429.add (((ji29)).toNat * 2)) = some (.int .i64 ((rd_T67 t423 (ji29)).f0)) ∧ w'.cell? ⟨(ad429.add (((ji29)).toNat * 2)).block, (ad429.add (((ji29)).toNat * 2)).off + 1, none⟩ = some (.int .i64 ((rd_T67 t423 (ji29)).f1))) (ds := []) #[false, false, false, false, false, false, false, false, false, false, false, false, false, false, false, false, false, false, false, false] (by kernel_rfl) rfl rfl ⟨hx429_0, hx429_1, hx430_0, hx430_1, hx431_0, hx431_1⟩ (fun hHeld => ?_); refine with_tabW laws_FnHulls.tab11 laws_FnHulls.bits11 (fun HT_ HW_ => ?_)
                generalize wc.drew = w50 at HO_3 HO_4 HB hx429_0 hx429_1 hx430_0 hx430_1 hx431_0 hx431_1 hHeld ⊢
                refine pure_ (i := 0) (N := some 33) (v := ?_) (a' := ?_) #[true, false, false, false, false, false, false, false, false, false, false, false, false, false, false, false, false, false, false, false] rfl rfl (any_of HT_.out (by kernel_rfl)) (fun _ _ _ h => h) (Or.inl ⟨by rfl, ?_⟩) ?_ ?_
                rotate_left
                ·intro w'
                 go_simp
                 with_reducible rfl
                rotate_left
                ·simp only [Act.put, sT, sZ, sS, i64_w, i32_w]
                 rfl
                refine pure_ (i := 1) (N := some 34) (v := ?_) (a' := ?_) #[true, true, false, false, false, false, false, false, false, false, false, false, false, false, false, false, false, false, false, false] rfl rfl (any_of HT_.out (by kernel_rfl)) (fun _ _ _ h => h) (Or.inl ⟨by rfl, ?_⟩) ?_ ?_
                rotate_left
                ·intro w'
                 go_simp
                 with_reducible rfl
                rotate_left
                ·simp only [Act.put, sT, sZ, sS, i64_w, i32_w]
                 rfl
                refine pure_ (i := 2) (N := some 35) (v := ?_) (a' := ?_) #[true, true, true, false, false, false, false, false, false, false, false, false, false, false, false, false, false, false, false, false] rfl rfl (any_of HT_.out (by kernel_rfl)) (fun _ _ _ h => h) (Or.inl ⟨by rfl, ?_⟩) ?_ ?_
                rotate_left
                ·intro w'
                 go_simp
                 with_reducible rfl
                rotate_left
                ·simp only [Act.put, sT, sZ, sS, i64_w, i32_w]
                 rfl
                refine pure_ (i := 4) (N := some 37) (v := ?_) (a' := ?_) #[true, true, true, false, true, false, false, false, false, false, false, false, false, false, false, false, false, false, false, false] rfl rfl (any_of HT_.out (by kernel_rfl)) (fun _ _ _ h => h) (Or.inl ⟨by rfl, ?_⟩) ?_ ?_
                rotate_left
                ·intro w'
                 go_simp
                 with_reducible rfl
                rotate_left
                ·simp only [Act.put, sT, sZ, sS, i64_w, i32_w]
                 rfl
                refine pure_ (i := 5) (N := some 38) (v := ?_) (a' := ?_) #[true, true, true, false, true, true, false, false, false, false, false, false, false, false, false, false, false, false, false, false] rfl rfl (any_of HT_.out (by kernel_rfl)) (fun _ _ _ h => h) (Or.inl ⟨by rfl, ?_⟩) ?_ ?_
                rotate_left
                ·intro w'
                 go_simp
                 with_reducible rfl
                rotate_left
                ·simp only [Act.put, sT, sZ, sS, i64_w, i32_w]
                 rfl
                refine pure_ (i := 6) (N := some 39) (v := ?_) (a' := ?_) #[true, true, true, false, true, true, true, false, false, false, false, false, false, false, false, false, false, false, false, false] rfl rfl (any_of HT_.out (by kernel_rfl)) (fun _ _ _ h => h) (Or.inl ⟨by rfl, ?_⟩) ?_ ?_
                rotate_left
                ·intro w'
                 go_simp
                 with_reducible rfl
                rotate_left
                ·simp only [Act.put, sT, sZ, sS, i64_w, i32_w]
                 rfl
                refine pure_ (i := 7) (N := some 40) (v := ?_) (a' := ?_) #[true, true, true, false, true, true, true, true, false, false, false, false, false, false, false, false, false, false, false, false] rfl rfl (any_of HT_.out (by kernel_rfl)) (fun _ _ _ h => h) (Or.inl ⟨by rfl, ?_⟩) ?_ ?_
                rotate_left
                ·intro w'
                 go_simp
                 with_reducible rfl
                rotate_left
                ·simp only [Act.put, sT, sZ, sS, i64_w, i32_w]
                 rfl
                refine pure_ (i := 8) (N := some 41) (v := ?_) (a' := ?_) #[true, true, true, false, true, true, true, true, true, false, false, false, false, false, false, false, false, false, false, false] rfl rfl (any_of HT_.out (by kernel_rfl)) (fun _ _ _ h => h) (Or.inl ⟨by rfl, ?_⟩) ?_ ?_
                rotate_left
                ·intro w'
                 go_simp
                 with_reducible rfl
                rotate_left
                ·simp only [Act.put, sT, sZ, sS, i64_w, i32_w]
                 rfl
                refine pure_ (i := 9) (N := some 42) (v := ?_) (a' := ?_) #[true, true, true, false, true, true, true, true, true, true, false, false, false, false, false, false, false, false, false, false] rfl rfl (any_of HT_.out (by kernel_rfl)) (fun _ _ _ h => h) (Or.inl ⟨by rfl, ?_⟩) ?_ ?_
                rotate_left
                ·intro w'
                 go_simp
                 with_reducible rfl
                rotate_left
                ·simp only [Act.put, sT, sZ, sS, i64_w, i32_w]
                 rfl
                refine pure_ (i := 11) (N := some 44) (v := ?_) (a' := ?_) #[true, true, true, false, true, true, true, true, true, true, false, true, false, false, false, false, false, false, false, false] rfl rfl (any_of HT_.out (by kernel_rfl)) (fun _ _ _ h => h) (Or.inl ⟨by rfl, ?_⟩) ?_ ?_
                rotate_left
                ·intro w'
                 go_simp
                 with_reducible rfl
                rotate_left
                ·simp only [Act.put, sT, sZ, sS, i64_w, i32_w]
                 rfl
                refine pure_ (i := 12) (N := some 45) (v := ?_) (a' := ?_) #[true, true, true, false, true, true, true, true, true, true, false, true, true, false, false, false, false, false, false, false] rfl rfl (any_of HT_.out (by kernel_rfl)) (fun _ _ _ h => h) (Or.inl ⟨by rfl, ?_⟩) ?_ ?_
                rotate_left
                ·intro w'
                 go_simp
                 with_reducible rfl
                rotate_left
                ·simp only [Act.put, sT, sZ, sS, i64_w, i32_w]
                 rfl
                refine pure_ (i := 13) (N := some 46) (v := ?_) (a' := ?_) #[true, true, true, false, true, true, true, true, true, true, false, true, true, true, false, false, false, false, false, false] rfl rfl (any_of HT_.out (by kernel_rfl)) (fun _ _ _ h => h) (Or.inl ⟨by rfl, ?_⟩) ?_ ?_
                rotate_left
                ·intro w'
                 go_simp
                 with_reducible rfl
                rotate_left
                ·simp only [Act.put, sT, sZ, sS, i64_w, i32_w]
                 rfl
                refine pure_ (i := 14) (N := some 47) (v := ?_) (a' := ?_) #[true, true, true, false, true, true, true, true, true, true, false, true, true, true, true, false, false, false, false, false] rfl rfl (any_of HT_.out (by kernel_rfl)) (fun _ _ _ h => h) (Or.inl ⟨by rfl, ?_⟩) ?_ ?_
                rotate_left
                ·intro w'
                 go_simp
                 with_reducible rfl
                rotate_left
                ·simp only [Act.put, sT, sZ, sS, i64_w, i32_w]
                 rfl
                refine pure_ (i := 15) (N := some 48) (v := ?_) (a' := ?_) #[true, true, true, false, true, true, true, true, true, true, false, true, true, true, true, true, false, false, false, false] rfl rfl (any_of HT_.out (by kernel_rfl)) (fun _ _ _ h => h) (Or.inl ⟨by rfl, ?_⟩) ?_ ?_
                rotate_left
                ·intro w'
                 go_simp
                 with_reducible rfl
                rotate_left
                ·simp only [Act.put, sT, sZ, sS, i64_w, i32_w]
                 rfl
                refine pure_ (i := 16) (N := some 49) (v := ?_) (a' := ?_) #[true, true, true, false, true, true, true, true, true, true, false, true, true, true, true, true, true, false, false, false] rfl rfl (any_of HT_.out (by kernel_rfl)) (fun _ _ _ h => h) (Or.inl ⟨by rfl, ?_⟩) ?_ ?_
                rotate_left
                ·intro w'
                 go_simp
                 with_reducible rfl
                rotate_left
                ·simp only [Act.put, sT, sZ, sS, i64_w, i32_w]
                 rfl
                refine take_ (i := 3) (N := some 36) (v := ?_) (a' := ?_) #[true, true, true, true, true, true, true, true, true, true, false, true, true, true, true, true, true, false, false, false] rfl rfl (take_ofW HT_.out HW_.out (by kernel_rfl)) (fun _ _ _ h => h) (Or.inl ⟨by rfl, ?_⟩) hHeld ?_ ?_
                rotate_left
                ·rintro w' ⟨s0, s1, s2, s3, s4, s5⟩
                 go_simp
                 with_reducible rfl
                rotate_left
                ·simp only [Act.put, sT, sZ, sS, i64_w, i32_w]
                 rfl
                refine take_ (i := 10) (N := some 43) (v := ?_) (a' := ?_) #[true, true, true, true, true, true, true, true, true, true, true, true, true, true, true, true, true, false, false, false] rfl rfl (take_ofW HT_.out HW_.out (by kernel_rfl)) (fun _ _ _ h => h) (Or.inl ⟨by rfl, ?_⟩) hHeld ?_ ?_
                rotate_left
                ·rintro w' ⟨s0, s1, s2, s3, s4, s5⟩
                 go_simp
                 with_reducible rfl
                rotate_left
                ·simp only [Act.put, sT, sZ, sS, i64_w, i32_w]
                 rfl
                refine take_ (i := 17) (N := some 50) (v := ?_) (a' := ?_) #[true, true, true, true, true, true, true, true, true, true, true, true, true, true, true, true, true, true, false, false] rfl rfl (take_ofW HT_.out HW_.out (by kernel_rfl)) (fun _ _ _ h => h) (Or.inl ⟨by rfl, ?_⟩) hHeld ?_ ?_
                rotate_left
                ·rintro w' ⟨s0, s1, s2, s3, s4, s5⟩
                 go_simp
                 with_reducible rfl
                rotate_left
                ·simp only [Act.put, sT, sZ, sS, i64_w, i32_w]
                 rfl
                refine one_ (i := 18) (N := some 51) #[true, true, true, true, true, true, true, true, true, true, true, true, true, true, true, true, true, true, true, false] rfl rfl (one_of HT_.out (by kernel_rfl)) (by decide) (fun K hK => ?_)
                refine goes_ Try.func39 (by kernel_rfl) rfl #[.agg #[.int .i64 ((rd_T67 t423 x6_1).f0), .int .i64 ((rd_T67 t423 x6_1).f1)], .agg #[.int .i64 ((rd_T67 t423 (ji26)).f0), .int .i64 ((rd_T67 t423 (ji26)).f1)], .agg #[.int .i64 ((rd_T67 t423 (ji29)).f0), .int .i64 ((rd_T67 t423 (ji29)).f1)]] (by rfl) rfl rfl (by (try simp only [List.map_toArray, List.map_cons, List.map_nil]); first | done | (simp only [hji26, hji29]; rfl) | rfl | (simp only [List.length_drop, List.length_take]; rfl)) ?_
                with_reducible refine (impl_Turn.calls ((rd_T67 t423 x6_1).f0) ((rd_T67 t423 x6_1).f1) ((rd_T67 t423 (ji26)).f0) ((rd_T67 t423 (ji26)).f1) ((rd_T67 t423 (ji29)).f0) ((rd_T67 t423 (ji29)).f1) t432 _ A32.out).mono ?_
                rintro e w51 ⟨rfl, hb⟩
                have HS0_ := (hb.cell (World.block_lt_of_cell? _ _ hHeld.1)).trans hHeld.1
                have HS1_ := (hb.cell (World.block_lt_of_cell? _ _ hHeld.2.1)).trans hHeld.2.1
                have HS2_ := (hb.cell (World.block_lt_of_cell? _ _ hHeld.2.2.1)).trans hHeld.2.2.1
                have HS3_ := (hb.cell (World.block_lt_of_cell? _ _ hHeld.2.2.2.1)).trans hHeld.2.2.2.1
                have HS4_ := (hb.cell (World.block_lt_of_cell? _ _ hHeld.2.2.2.2.1)).trans hHeld.2.2.2.2.1
                have HS5_ := (hb.cell (World.block_lt_of_cell? _ _ hHeld.2.2.2.2.2)).trans hHeld.2.2.2.2.2
                refine ⟨_, rfl, ?_⟩
                replace HO_3 := Ak (Kd.R_below (rq HO_3.out) hb)
                replace HO_4 := Ak (Kd.R_below (rq HO_4.out) hb)
                replace HB := Ak (below_step (bw HB.out) hb)
                refine hK.out _ _ ⟨HS0_, HS1_, HS2_, HS3_, HS4_, HS5_⟩ (fun hHeld => ?_)
                clear hK K
                refine norm_ (a' := ?_) ?_ ?_
                rotate_left
                ·show Act.put _ (some 51) _ = _
                 simp only [Act.put, sT, sZ, sS, i64_w, i32_w]
                 rfl
                refine pure_ (i := 19) (N := some 52) (v := ?_) (a' := ?_) #[true, true, true, true, true, true, true, true, true, true, true, true, true, true, true, true, true, true, true, true] rfl rfl (any_of HT_.out (by kernel_rfl)) (fun _ _ _ h => h) (Or.inl ⟨by rfl, ?_⟩) ?_ ?_
                rotate_left
                ·intro w'
                 go_simp
                 with_reducible rfl
                rotate_left
                ·simp only [Act.put, sT, sZ, sS, i64_w, i32_w]
                 rfl
                refine done_ (done_of HT_.out (by kernel_rfl)) ?_
                try go_wp2
                go_ret
                exact ⟨by first | rfl | (simp [errW_none, errW_some] <;> rfl) | (simp only [← hji26, ← hji29]; first | rfl | (simp [errW_none, errW_some] <;> rfl)) | (simp [*, errW_none, errW_some] <;> rfl), bw HB.out⟩
              ·rw [if_neg c31] at H
               exact absurd H (by simp)
             ·rw [if_neg c30] at H
              exact absurd H (by simp)
            ·rw [if_neg c28] at H
             exact absurd H (by simp)
           ·rw [if_neg c27] at H
            exact absurd H (by simp)
         ·rw [if_neg c24] at H
          exact absurd H (by simp)
        ·rw [if_neg c23] at H
         exact absurd H (by simp)
       ·replace c22 := Bool.eq_false_iff.mpr c22
        subst c22
        have H1 : (laws_FnHulls.l2 kj19 t420 t423 (t423.length : Int) 0) = some r := by rw [if_neg (show ¬ (false = true) by decide)] at H; exact H
        clear H
        have H := H1
        clear H1
        have H' := Ak H
        clear H
        go_wp2
        go_loopg [8] kj19 (fun kq v8 w' => ∃ (x8_3 : Int), v8 = .int .i64 x8_3 ∧ Aside0 (laws_FnHulls.l2 kq t420 t423 (t423.length : Int) x8_3 = some r) ∧ Aside0 (kq ≤ kj19) ∧ Aside0 (Kd.R k67 67 w' w.heap.size (fun k_ => some k_ ≠ ((.slice Ao19 t423.length co19) : Value).ownBlock) (.slice Ao15 t420.length co15) t420) ∧ Aside0 (Kd.R k67 67 w' w.heap.size (fun k_ => some k_ ≠ ((.slice Ao15 t420.length co15) : Value).ownBlock) (.slice Ao19 t423.length co19) t423) ∧ Aside0 (Below w.heap.size w w'))
        case atStart => exact ⟨(0), (by first | rfl | (simp; done) | (simp [*]; done)), H', ⟨Nat.le_refl _⟩, ⟨rq HO_3.out⟩, ⟨rq HO_4.out⟩, ⟨bw HB.out⟩⟩
        case round =>
         clear H'
         try clear q4
         try clear hx4
         try clear c33b0
         try clear c33b1
         try clear c36b0
         try clear q42
         try clear hx42
         try clear q43
         try clear hx43
         try clear c45b0
         try clear hx429_0
         try clear hx429_1
         try clear hx430_0
         try clear hx430_1
         try clear hx431_0
         try clear hx431_1
         try clear hx433_0
         try clear hx433_1
         try clear hx434_0
         try clear hx434_1
         try clear hx435_0
         try clear hx435_1
         try clear q429
         try clear q430
         try clear q431
         try clear q433
         try clear q434
         try clear q435
         obtain ⟨x8_3, rfl, HA, HK3, HO_3, HO_4, HB⟩ := hrel
         cases gk with
         | zero => exact absurd HA.out (by simp [laws_FnHulls.l2])
         | succ k3 =>
          have H := HA.out
          clear HA
          simp only [laws_FnHulls.l2] at H
          have HC52 := Ak H
          clear H
          go_upto_region 19 with (fail)
          go_cut [83] (fun v83 wc => ∃ (kq : Nat) (x83_51 : Bool), v83 = .bool x83_51 ∧ Aside0 (laws_FnHulls.j4 kq t420 t423 (t423.length : Int) x8_3 x83_51 = some r) ∧ Aside0 (kq ≤ k3) ∧ Aside0 (Kd.R k67 67 wc w.heap.size (fun k_ => some k_ ≠ ((.slice Ao19 t423.length co19) : Value).ownBlock) (.slice Ao15 t420.length co15) t420) ∧ Aside0 (Kd.R k67 67 wc w.heap.size (fun k_ => some k_ ≠ ((.slice Ao15 t420.length co15) : Value).ownBlock) (.slice Ao19 t423.length co19) t423) ∧ Aside0 (Below w.heap.size w wc))
          case first =>
           have H := HC52.out
           clear HC52
           by_cases c53 : x8_3 < (t420.length : Int)
           ·rw [if_pos c53] at H
            have c53b0 : decide (x8_3 < (t420.length : Int)) = true := decide_eq_true c53
            clear c53
            (first | rw [c53b0] | (simp only [i64_w, i32_w]; rw [c53b0]) | skip)
            have H' := Ak H
            clear H
            go_wp2
            go_meet
            case rel => exact ⟨_, (((t423.length : Int) == 2)), (by first | rfl | (simp; done) | (simp [*]; done)), H', ⟨by have := HK1.out; have := HJ19.out; have := HK3.out; first | omega | exact Nat.le_refl _⟩, ⟨rq HO_3.out⟩, ⟨rq HO_4.out⟩, ⟨bw HB.out⟩⟩
           ·rw [if_neg c53] at H
            have c53b0 : decide (x8_3 < (t420.length : Int)) = false := decide_eq_false c53
            clear c53
            (first | rw [c53b0] | (simp only [i64_w, i32_w]; rw [c53b0]) | skip)
            have H' := Ak H
            clear H
            go_wp2
            go_meet
            case rel => exact ⟨_, (false), (by first | rfl | (simp; done) | (simp [*]; done)), H', ⟨by have := HK1.out; have := HJ19.out; have := HK3.out; first | omega | exact Nat.le_refl _⟩, ⟨rq HO_3.out⟩, ⟨rq HO_4.out⟩, ⟨bw HB.out⟩⟩
          case rest =>
           clear HC52
           try clear q4
           try clear hx4
           try clear c33b0
           try clear c33b1
           try clear c36b0
           try clear q42
           try clear hx42
           try clear q43
           try clear hx43
           try clear c45b0
           try clear c53b0
           try clear hx429_0
           try clear hx429_1
           try clear hx430_0
           try clear hx430_1
           try clear hx431_0
           try clear hx431_1
           try clear hx433_0
           try clear hx433_1
           try clear hx434_0
           try clear hx434_1
           try clear hx435_0
           try clear hx435_1
           try clear q4
           try clear q42
           try clear q429
           try clear q43
           try clear q430
           try clear q431
           try clear q433
           try clear q434
           try clear q435
           obtain ⟨kq, x83_51, rfl, HA, HJ51, HO_3, HO_4, HB⟩ := hcut
           cases kq with
           | zero => exact absurd HA.out (by simp [laws_FnHulls.j4])
           | succ kj51 =>
            have H := HA.out
            clear HA
            simp only [laws_FnHulls.j4] at H
            by_cases c54 : x83_51 = true
            ·subst c54
             have H1 : (if 0 < (t423.length : Int) then (if 1 < (t423.length : Int) then (if 0 ≤ x8_3 then (if x8_3 < (t420.length : Int) then ((impl_OnSeg.f ((rd_T67 t423 0).f0) ((rd_T67 t423 0).f1) ((rd_T67 t423 1).f0) ((rd_T67 t423 1).f1) ((rd_T67 t420 x8_3).f0) ((rd_T67 t420 x8_3).f1)).bind fun t440 => (if t440 = true then (laws_FnHulls.l2 kj51 t420 t423 (t423.length : Int) (wrap64 (x8_3 + 1))) else (some false))) else (none)) else (none)) else (none)) else (none)) = some r := by rw [if_pos rfl] at H; exact H
             clear H
             have H := H1
             clear H1
             by_cases c55 : 0 < (t423.length : Int)
             ·rw [if_pos c55] at H
              have c55b0 : decide (0 < (t423.length : Int)) = true := decide_eq_true c55
              have c55b1 : decide (0 < t423.length) = true := decide_eq_true (by omega)
              clear c55
              by_cases c56 : 1 < (t423.length : Int)
              ·rw [if_pos c56] at H
               have c56b0 : decide (1 < (t423.length : Int)) = true := decide_eq_true c56
               have c56b1 : decide (1 < t423.length) = true := decide_eq_true (by omega)
               clear c56
               by_cases c57 : 0 ≤ x8_3
               ·rw [if_pos c57] at H
                have c57b0 : decide (0 ≤ x8_3) = true := decide_eq_true c57
                clear c57
                by_cases c58 : x8_3 < (t420.length : Int)
                ·rw [if_pos c58] at H
                 have c58b0 : decide (x8_3 < (t420.length : Int)) = true := decide_eq_true c58
                 clear c58
                 replace H := Option.bind_eq_some_iff.mp H
                 obtain ⟨t440, A590, H⟩ := H
                 have A59 := Ak A590
                 clear A590
                 by_cases c60 : t440 = true
                 ·subst c60
                  have H1 : (laws_FnHulls.l2 kj51 t420 t423 (t423.length : Int) (wrap64 (x8_3 + 1))) = some r := by rw [if_pos rfl] at H; exact H
                  clear H
                  have H := H1
                  clear H1
                  have H' := Ak H
                  clear H
                  try go_wp2
                  replace HO_3 := Ak (Kd.R_drew HO_3.out)
                  replace HO_4 := Ak (Kd.R_drew HO_4.out)
                  replace HB := Ak (below_drew1 HB.out)
                  have p437 : 0 ≤ (0 : Int) := (by omega)
                  have q437 : 0 < (t423.length : Int) := of_decide_eq_true (by first | (with_reducible assumption) | assumption)
                  obtain ⟨ad437, e437, hx437_0, hx437_1⟩ := at_T67 (Kd.R_reads' HO_4.out).2.2 0 p437 q437
                  cases e437
                  have qi437 : (0 < t423.length) = True := eq_true (by omega)
                  (try rw [show ((0 : Int)).toNat = 0 from rfl] at hx437_0)
                  (try rw [show 0 * 2 = 0 from rfl] at hx437_0)
                  (try rw [Addr.add_zero'] at hx437_0)
                  (try rw [show ((0 : Int)).toNat = 0 from rfl] at hx437_1)
                  (try rw [show 0 * 2 = 0 from rfl] at hx437_1)
                  (try rw [Addr.add_zero'] at hx437_1)
                  replace p437 := eq_true p437
                  replace q437 := eq_true q437
                  have p438 : 0 ≤ (1 : Int) := (by omega)
                  have q438 : 1 < (t423.length : Int) := of_decide_eq_true (by first | (with_reducible assumption) | assumption)
                  obtain ⟨ad438, e438, hx438_0, hx438_1⟩ := at_T67 (Kd.R_reads' HO_4.out).2.2 1 p438 q438
                  obtain rfl : ad437 = ad438 := (by injection e438)
                  (try simp only [show (1 : Int).toNat = 1 from rfl, Nat.reduceMul, Nat.reduceEqDiff, Go.Addr.add, ↓reduceIte] at hx438_0)
                  (try simp only [show (1 : Int).toNat = 1 from rfl, Nat.reduceMul, Nat.reduceEqDiff, Go.Addr.add, ↓reduceIte] at hx438_1)
                  have qi438 : (1 < t423.length) = True := eq_true (by omega)
                  (try rw [show ((1 : Int)).toNat = 1 from rfl] at hx438_0)
                  (try rw [show 1 * 2 = 2 from rfl] at hx438_0)
                  (try rw [show ((1 : Int)).toNat = 1 from rfl] at hx438_1)
                  (try rw [show 1 * 2 = 2 from rfl] at hx438_1)
                  replace p438 := eq_true p438
                  replace q438 := eq_true q438
                  have p439 : 0 ≤ (x8_3 : Int) := of_decide_eq_true (by first | (with_reducible assumption) | assumption)
                  have q439 : x8_3 < (t420.length : Int) := of_decide_eq_true (by first | (with_reducible assumption) | assumption)
                  obtain ⟨ad439, e439, hx439_0, hx439_1⟩ := at_T67 (Kd.R_reads' HO_3.out).2.2 x8_3 p439 q439
                  cases e439
                  replace p439 := eq_true p439
                  replace q439 := eq_true q439
                  refine start_ (n := 12) (S := fun w' => w'.cell? ad437 = some (.int .i64 ((rd_T67 t423 0).f0)) ∧ w'.cell? ⟨ad437.block, ad437.off + 1, none⟩ = some (.int .i64 ((rd_T67 t423 0).f1)) ∧ w'.cell? ⟨ad437.block, ad437.off + 2, none⟩ = some (.int .i64 ((rd_T67 t423 1).f0)) ∧ w'.cell? ⟨ad437.block, ad437.off + 2 + 1, none⟩ = some (.int .i64 ((rd_T67 t423 1).f1)) ∧ w'.cell? (ad439.add ((x8_3).toNat * 2)) = some (.int .i64 ((rd_T67 t420 x8_3).f0)) ∧ w'.cell? ⟨(ad439.add ((x8_3).toNat * 2)).block, (ad439.add ((x8_3).toNat * 2)).off + 1, none⟩ = some (.int .i64 ((rd_T67 t420 x8_3).f1))) (ds := []) #[false, false, false, false, false, false, false, false, false, false, false, false] (by kernel_rfl) rfl rfl ⟨hx437_0, hx437_1, hx438_0, hx438_1, hx439_0, hx439_1⟩ (fun hHeld => ?_); refine with_tabW laws_FnHulls.tab21 laws_FnHulls.bits21 (fun HT_ HW_ => ?_)
                  generalize wc.drew = w61 at HO_3 HO_4 HB hx437_0 hx437_1 hx438_0 hx438_1 hx439_0 hx439_1 hHeld ⊢
                  refine pure_ (i := 0) (N := some 86) (v := ?_) (a' := ?_) #[true, false, false, false, false, false, false, false, false, false, false, false] rfl rfl (any_of HT_.out (by kernel_rfl)) (fun _ _ _ h => h) (Or.inl ⟨by rfl, ?_⟩) ?_ ?_
                  rotate_left
                  ·intro w'
                   go_simp
                   with_reducible rfl
                  rotate_left
                  ·simp only [Act.put, sT, sZ, sS, i64_w, i32_w]
                   rfl
                  refine pure_ (i := 1) (N := some 87) (v := ?_) (a' := ?_) #[true, true, false, false, false, false, false, false, false, false, false, false] rfl rfl (any_of HT_.out (by kernel_rfl)) (fun _ _ _ h => h) (Or.inl ⟨by rfl, ?_⟩) ?_ ?_
                  rotate_left
                  ·intro w'
                   go_simp
                   with_reducible rfl
                  rotate_left
                  ·simp only [Act.put, sT, sZ, sS, i64_w, i32_w]
                   rfl
                  refine pure_ (i := 3) (N := some 89) (v := ?_) (a' := ?_) #[true, true, false, true, false, false, false, false, false, false, false, false] rfl rfl (any_of HT_.out (by kernel_rfl)) (fun _ _ _ h => h) (Or.inl ⟨by rfl, ?_⟩) ?_ ?_
                  rotate_left
                  ·intro w'
                   go_simp
                   with_reducible rfl
                  rotate_left
                  ·simp only [Act.put, sT, sZ, sS, i64_w, i32_w]
                   rfl
                  refine pure_ (i := 4) (N := some 90) (v := ?_) (a' := ?_) #[true, true, false, true, true, false, false, false, false, false, false, false] rfl rfl (any_of HT_.out (by kernel_rfl)) (fun _ _ _ h => h) (Or.inl ⟨by rfl, ?_⟩) ?_ ?_
                  rotate_left
                  ·intro w'
                   go_simp
                   with_reducible rfl
                  rotate_left
                  ·simp only [Act.put, sT, sZ, sS, i64_w, i32_w]
                   rfl
                  refine pure_ (i := 6) (N := some 92) (v := ?_) (a' := ?_) #[true, true, false, true, true, false, true, false, false, false, false, false] rfl rfl (any_of HT_.out (by kernel_rfl)) (fun _ _ _ h => h) (Or.inl ⟨by rfl, ?_⟩) ?_ ?_
                  rotate_left
                  ·intro w'
                   go_simp
                   with_reducible rfl
                  rotate_left
                  ·simp only [Act.put, sT, sZ, sS, i64_w, i32_w]
                   rfl
                  refine pure_ (i := 7) (N := some 93) (v := ?_) (a' := ?_) #[true, true, false, true, true, false, true, true, false, false, false, false] rfl rfl (any_of HT_.out (by kernel_rfl)) (fun _ _ _ h => h) (Or.inl ⟨by rfl, ?_⟩) ?_ ?_
                  rotate_left
                  ·intro w'
                   go_simp
                   with_reducible rfl
                  rotate_left
                  ·simp only [Act.put, sT, sZ, sS, i64_w, i32_w]
                   rfl
                  refine pure_ (i := 8) (N := some 94) (v := ?_) (a' := ?_) #[true, true, false, true, true, false, true, true, true, false, false, false] rfl rfl (any_of HT_.out (by kernel_rfl)) (fun _ _ _ h => h) (Or.inl ⟨by rfl, ?_⟩) ?_ ?_
                  rotate_left
                  ·intro w'
                   go_simp
                   with_reducible rfl
                  rotate_left
                  ·simp only [Act.put, sT, sZ, sS, i64_w, i32_w]
                   rfl
                  refine take_ (i := 2) (N := some 88) (v := ?_) (a' := ?_) #[true, true, true, true, true, false, true, true, true, false, false, false] rfl rfl (take_ofW HT_.out HW_.out (by kernel_rfl)) (fun _ _ _ h => h) (Or.inl ⟨by rfl, ?_⟩) hHeld ?_ ?_
                  rotate_left
                  ·rintro w' ⟨s0, s1, s2, s3, s4, s5⟩
                   go_simp
                   with_reducible rfl
                  rotate_left
                  ·simp only [Act.put, sT, sZ, sS, i64_w, i32_w]
                   rfl
                  refine take_ (i := 5) (N := some 91) (v := ?_) (a' := ?_) #[true, true, true, true, true, true, true, true, true, false, false, false] rfl rfl (take_ofW HT_.out HW_.out (by kernel_rfl)) (fun _ _ _ h => h) (Or.inl ⟨by rfl, ?_⟩) hHeld ?_ ?_
                  rotate_left
                  ·rintro w' ⟨s0, s1, s2, s3, s4, s5⟩
                   go_simp
                   with_reducible rfl
                  rotate_left
                  ·simp only [Act.put, sT, sZ, sS, i64_w, i32_w]
                   rfl
                  refine take_ (i := 9) (N := some 95) (v := ?_) (a' := ?_) #[true, true, true, true, true, true, true, true, true, true, false, false] rfl rfl (take_ofW HT_.out HW_.out (by kernel_rfl)) (fun _ _ _ h => h) (Or.inl ⟨by rfl, ?_⟩) hHeld ?_ ?_
                  rotate_left
                  ·rintro w' ⟨s0, s1, s2, s3, s4, s5⟩
                   go_simp
                   with_reducible rfl
                  rotate_left
                  ·simp only [Act.put, sT, sZ, sS, i64_w, i32_w]
                   rfl
                  refine one_ (i := 10) (N := some 96) #[true, true, true, true, true, true, true, true, true, true, true, false] rfl rfl (one_of HT_.out (by kernel_rfl)) (by decide) (fun K hK => ?_)
                  refine goes_ Try.func40 (by kernel_rfl) rfl #[.agg #[.int .i64 ((rd_T67 t423 0).f0), .int .i64 ((rd_T67 t423 0).f1)], .agg #[.int .i64 ((rd_T67 t423 1).f0), .int .i64 ((rd_T67 t423 1).f1)], .agg #[.int .i64 ((rd_T67 t420 x8_3).f0), .int .i64 ((rd_T67 t420 x8_3).f1)]] (by rfl) rfl rfl gm ?_
                  with_reducible refine (impl_OnSeg.calls ((rd_T67 t423 0).f0) ((rd_T67 t423 0).f1) ((rd_T67 t423 1).f0) ((rd_T67 t423 1).f1) ((rd_T67 t420 x8_3).f0) ((rd_T67 t420 x8_3).f1) true _ A59.out).mono ?_
                  rintro e w62 ⟨rfl, hb⟩
                  have HS0_ := (hb.cell (World.block_lt_of_cell? _ _ hHeld.1)).trans hHeld.1
                  have HS1_ := (hb.cell (World.block_lt_of_cell? _ _ hHeld.2.1)).trans hHeld.2.1
                  have HS2_ := (hb.cell (World.block_lt_of_cell? _ _ hHeld.2.2.1)).trans hHeld.2.2.1
                  have HS3_ := (hb.cell (World.block_lt_of_cell? _ _ hHeld.2.2.2.1)).trans hHeld.2.2.2.1
                  have HS4_ := (hb.cell (World.block_lt_of_cell? _ _ hHeld.2.2.2.2.1)).trans hHeld.2.2.2.2.1
                  have HS5_ := (hb.cell (World.block_lt_of_cell? _ _ hHeld.2.2.2.2.2)).trans hHeld.2.2.2.2.2
                  refine ⟨_, rfl, ?_⟩
                  replace HO_3 := Ak (Kd.R_below (rq HO_3.out) hb)
                  replace HO_4 := Ak (Kd.R_below (rq HO_4.out) hb)
                  replace HB := Ak (below_step (bw HB.out) hb)
                  refine hK.out _ _ ⟨HS0_, HS1_, HS2_, HS3_, HS4_, HS5_⟩ (fun hHeld => ?_)
                  clear hK K
                  refine norm_ (a' := ?_) ?_ ?_
                  rotate_left
                  ·show Act.put _ (some 96) _ = _
                   simp only [Act.put, sT, sZ, sS, i64_w, i32_w]
                   rfl
                  refine pure_ (i := 11) (N := some 97) (v := ?_) (a' := ?_) #[true, true, true, true, true, true, true, true, true, true, true, true] rfl rfl (any_of HT_.out (by kernel_rfl)) (fun _ _ _ h => h) (Or.inl ⟨by rfl, ?_⟩) ?_ ?_
                  rotate_left
                  ·intro w'
                   go_simp
                   with_reducible rfl
                  rotate_left
                  ·simp only [Act.put, sT, sZ, sS, i64_w, i32_w]
                   rfl
                  refine done_ (done_of HT_.out (by kernel_rfl)) ?_
                  try go_wp2
                  go_roundg kj51
                  case measure => have := HK1.out; have := HJ19.out; have := HK3.out; have := HJ51.out; omega
                  case rel => exact ⟨(wrap64 (x8_3 + 1)), (by first | rfl | (simp; done) | (simp [*]; done)), H', ⟨by have := HK1.out; have := HJ19.out; have := HK3.out; have := HJ51.out; omega⟩, ⟨rq HO_3.out⟩, ⟨rq HO_4.out⟩, ⟨bw HB.out⟩⟩
                 ·replace c60 := Bool.eq_false_iff.mpr c60
                  subst c60
                  have H1 : (some false) = some r := by rw [if_neg (show ¬ (false = true) by decide)] at H; exact H
                  clear H
                  have H := H1
                  clear H1
                  obtain rfl := Option.some.inj H
                  try go_wp2
                  replace HO_3 := Ak (Kd.R_drew HO_3.out)
                  replace HO_4 := Ak (Kd.R_drew HO_4.out)
                  replace HB := Ak (below_drew1 HB.out)
                  have p437 : 0 ≤ (0 : Int) := (by omega)
                  have q437 : 0 < (t423.length : Int) := of_decide_eq_true (by first | (with_reducible assumption) | assumption)
                  obtain ⟨ad437, e437, hx437_0, hx437_1⟩ := at_T67 (Kd.R_reads' HO_4.out).2.2 0 p437 q437
                  cases e437
                  have qi437 : (0 < t423.length) = True := eq_true (by omega)
                  (try rw [show ((0 : Int)).toNat = 0 from rfl] at hx437_0)
                  (try rw [show 0 * 2 = 0 from rfl] at hx437_0)
                  (try rw [Addr.add_zero'] at hx437_0)
                  (try rw [show ((0 : Int)).toNat = 0 from rfl] at hx437_1)
                  (try rw [show 0 * 2 = 0 from rfl] at hx437_1)
                  (try rw [Addr.add_zero'] at hx437_1)
                  replace p437 := eq_true p437
                  replace q437 := eq_true q437
                  have p438 : 0 ≤ (1 : Int) := (by omega)
                  have q438 : 1 < (t423.length : Int) := of_decide_eq_true (by first | (with_reducible assumption) | assumption)
                  obtain ⟨ad438, e438, hx438_0, hx438_1⟩ := at_T67 (Kd.R_reads' HO_4.out).2.2 1 p438 q438
                  obtain rfl : ad437 = ad438 := (by injection e438)
                  (try simp only [show (1 : Int).toNat = 1 from rfl, Nat.reduceMul, Nat.reduceEqDiff, Go.Addr.add, ↓reduceIte] at hx438_0)
                  (try simp only [show (1 : Int).toNat = 1 from rfl, Nat.reduceMul, Nat.reduceEqDiff, Go.Addr.add, ↓reduceIte] at hx438_1)
                  have qi438 : (1 < t423.length) = True := eq_true (by omega)
                  (try rw [show ((1 : Int)).toNat = 1 from rfl] at hx438_0)
                  (try rw [show 1 * 2 = 2 from rfl] at hx438_0)
                  (try rw [show ((1 : Int)).toNat = 1 from rfl] at hx438_1)
                  (try rw [show 1 * 2 = 2 from rfl] at hx438_1)
                  replace p438 := eq_true p438
                  replace q438 := eq_true q438
                  have p439 : 0 ≤ (x8_3 : Int) := of_decide_eq_true (by first | (with_reducible assumption) | assumption)
                  have q439 : x8_3 < (t420.length : Int) := of_decide_eq_true (by first | (with_reducible assumption) | assumption)
                  obtain ⟨ad439, e439, hx439_0, hx439_1⟩ := at_T67 (Kd.R_reads' HO_3.out).2.2 x8_3 p439 q439
                  cases e439
                  replace p439 := eq_true p439
                  replace q439 := eq_true q439
                  refine start_ (n := 12) (S := fun w' => w'.cell? ad437 = some (.int .i64 ((rd_T67 t423 0).f0)) ∧ w'.cell? ⟨ad437.block, ad437.off + 1, none⟩ = some (.int .i64 ((rd_T67 t423 0).f1)) ∧ w'.cell? ⟨ad437.block, ad437.off + 2, none⟩ = some (.int .i64 ((rd_T67 t423 1).f0)) ∧ w'.cell? ⟨ad437.block, ad437.off + 2 + 1, none⟩ = some (.int .i64 ((rd_T67 t423 1).f1)) ∧ w'.cell? (ad439.add ((x8_3).toNat * 2)) = some (.int .i64 ((rd_T67 t420 x8_3).f0)) ∧ w'.cell? ⟨(ad439.add ((x8_3).toNat * 2)).block, (ad439.add ((x8_3).toNat * 2)).off + 1, none⟩ = some (.int .i64 ((rd_T67 t420 x8_3).f1))) (ds := []) #[false, false, false, false, false, false, false, false, false, false, false, false] (by kernel_rfl) rfl rfl ⟨hx437_0, hx437_1, hx438_0, hx438_1, hx439_0, hx439_1⟩ (fun hHeld => ?_); refine with_tabW laws_FnHulls.tab21 laws_FnHulls.bits21 (fun HT_ HW_ => ?_)
                  generalize wc.drew = w63 at HO_3 HO_4 HB hx437_0 hx437_1 hx438_0 hx438_1 hx439_0 hx439_1 hHeld ⊢
                  refine pure_ (i := 0) (N := some 86) (v := ?_) (a' := ?_) #[true, false, false, false, false, false, false, false, false, false, false, false] rfl rfl (any_of HT_.out (by kernel_rfl)) (fun _ _ _ h => h) (Or.inl ⟨by rfl, ?_⟩) ?_ ?_
                  rotate_left
                  ·intro w'
                   go_simp
                   with_reducible rfl
                  rotate_left
                  ·simp only [Act.put, sT, sZ, sS, i64_w, i32_w]
                   rfl
                  refine pure_ (i := 1) (N := some 87) (v := ?_) (a' := ?_) #[true, true, false, false, false, false, false, false, false, false, false, false] rfl rfl (any_of HT_.out (by kernel_rfl)) (fun _ _ _ h => h) (Or.inl ⟨by rfl, ?_⟩) ?_ ?_
                  rotate_left
                  ·intro w'
                   go_simp
                   with_reducible rfl
                  rotate_left
                  ·simp only [Act.put, sT, sZ, sS, i64_w, i32_w]
                   rfl
                  refine pure_ (i := 3) (N := some 89) (v := ?_) (a' := ?_) #[true, true, false, true, false, false, false, false, false, false, false, false] rfl rfl (any_of HT_.out (by kernel_rfl)) (fun _ _ _ h => h) (Or.inl ⟨by rfl, ?_⟩) ?_ ?_
                  rotate_left
                  ·intro w'
                   go_simp
                   with_reducible rfl
                  rotate_left
                  ·simp only [Act.put, sT, sZ, sS, i64_w, i32_w]
                   rfl
                  refine pure_ (i := 4) (N := some 90) (v := ?_) (a' := ?_) #[true, true, false, true, true, false, false, false, false, false, false, false] rfl rfl (any_of HT_.out (by kernel_rfl)) (fun _ _ _ h => h) (Or.inl ⟨by rfl, ?_⟩) ?_ ?_
                  rotate_left
                  ·intro w'
                   go_simp
                   with_reducible rfl
                  rotate_left
                  ·simp only [Act.put, sT, sZ, sS, i64_w, i32_w]
                   rfl
                  refine pure_ (i := 6) (N := some 92) (v := ?_) (a' := ?_) #[true, true, false, true, true, false, true, false, false, false, false, false] rfl rfl (any_of HT_.out (by kernel_rfl)) (fun _ _ _ h => h) (Or.inl ⟨by rfl, ?_⟩) ?_ ?_
                  rotate_left
                  ·intro w'
                   go_simp
                   with_reducible rfl
                  rotate_left
                  ·simp only [Act.put, sT, sZ, sS, i64_w, i32_w]
                   rfl
                  refine pure_ (i := 7) (N := some 93) (v := ?_) (a' := ?_) #[true, true, false, true, true, false, true, true, false, false, false, false] rfl rfl (any_of HT_.out (by kernel_rfl)) (fun _ _ _ h => h) (Or.inl ⟨by rfl, ?_⟩) ?_ ?_
                  rotate_left
                  ·intro w'
                   go_simp
                   with_reducible rfl
                  rotate_left
                  ·simp only [Act.put, sT, sZ, sS, i64_w, i32_w]
                   rfl
                  refine pure_ (i := 8) (N := some 94) (v := ?_) (a' := ?_) #[true, true, false, true, true, false, true, true, true, false, false, false] rfl rfl (any_of HT_.out (by kernel_rfl)) (fun _ _ _ h => h) (Or.inl ⟨by rfl, ?_⟩) ?_ ?_
                  rotate_left
                  ·intro w'
                   go_simp
                   with_reducible rfl
                  rotate_left
                  ·simp only [Act.put, sT, sZ, sS, i64_w, i32_w]
                   rfl
                  refine take_ (i := 2) (N := some 88) (v := ?_) (a' := ?_) #[true, true, true, true, true, false, true, true, true, false, false, false] rfl rfl (take_ofW HT_.out HW_.out (by kernel_rfl)) (fun _ _ _ h => h) (Or.inl ⟨by rfl, ?_⟩) hHeld ?_ ?_
                  rotate_left
                  ·rintro w' ⟨s0, s1, s2, s3, s4, s5⟩
                   go_simp
                   with_reducible rfl
                  rotate_left
                  ·simp only [Act.put, sT, sZ, sS, i64_w, i32_w]
                   rfl
                  refine take_ (i := 5) (N := some 91) (v := ?_) (a' := ?_) #[true, true, true, true, true, true, true, true, true, false, false, false] rfl rfl (take_ofW HT_.out HW_.out (by kernel_rfl)) (fun _ _ _ h => h) (Or.inl ⟨by rfl, ?_⟩) hHeld ?_ ?_
                  rotate_left
                  ·rintro w' ⟨s0, s1, s2, s3, s4, s5⟩
                   go_simp
                   with_reducible rfl
                  rotate_left
                  ·simp only [Act.put, sT, sZ, sS, i64_w, i32_w]
                   rfl
                  refine take_ (i := 9) (N := some 95) (v := ?_) (a' := ?_) #[true, true, true, true, true, true, true, true, true, true, false, false] rfl rfl (take_ofW HT_.out HW_.out (by kernel_rfl)) (fun _ _ _ h => h) (Or.inl ⟨by rfl, ?_⟩) hHeld ?_ ?_
                  rotate_left
                  ·rintro w' ⟨s0, s1, s2, s3, s4, s5⟩
                   go_simp
                   with_reducible rfl
                  rotate_left
                  ·simp only [Act.put, sT, sZ, sS, i64_w, i32_w]
                   rfl
                  refine one_ (i := 10) (N := some 96) #[true, true, true, true, true, true, true, true, true, true, true, false] rfl rfl (one_of HT_.out (by kernel_rfl)) (by decide) (fun K hK => ?_)
                  refine goes_ Try.func40 (by kernel_rfl) rfl #[.agg #[.int .i64 ((rd_T67 t423 0).f0), .int .i64 ((rd_T67 t423 0).f1)], .agg #[.int .i64 ((rd_T67 t423 1).f0), .int .i64 ((rd_T67 t423 1).f1)], .agg #[.int .i64 ((rd_T67 t420 x8_3).f0), .int .i64 ((rd_T67 t420 x8_3).f1)]] (by rfl) rfl rfl gm ?_
                  with_reducible refine (impl_OnSeg.calls ((rd_T67 t423 0).f0) ((rd_T67 t423 0).f1) ((rd_T67 t423 1).f0) ((rd_T67 t423 1).f1) ((rd_T67 t420 x8_3).f0) ((rd_T67 t420 x8_3).f1) false _ A59.out).mono ?_
                  rintro e w64 ⟨rfl, hb⟩
                  have HS0_ := (hb.cell (World.block_lt_of_cell? _ _ hHeld.1)).trans hHeld.1
                  have HS1_ := (hb.cell (World.block_lt_of_cell? _ _ hHeld.2.1)).trans hHeld.2.1
                  have HS2_ := (hb.cell (World.block_lt_of_cell? _ _ hHeld.2.2.1)).trans hHeld.2.2.1
                  have HS3_ := (hb.cell (World.block_lt_of_cell? _ _ hHeld.2.2.2.1)).trans hHeld.2.2.2.1
                  have HS4_ := (hb.cell (World.block_lt_of_cell? _ _ hHeld.2.2.2.2.1)).trans hHeld.2.2.2.2.1
                  have HS5_ := (hb.cell (World.block_lt_of_cell? _ _ hHeld.2.2.2.2.2)).trans hHeld.2.2.2.2.2
                  refine ⟨_, rfl, ?_⟩
                  replace HO_3 := Ak (Kd.R_below (rq HO_3.out) hb)
                  replace HO_4 := Ak (Kd.R_below (rq HO_4.out) hb)
                  replace HB := Ak (below_step (bw HB.out) hb)
                  refine hK.out _ _ ⟨HS0_, HS1_, HS2_, HS3_, HS4_, HS5_⟩ (fun hHeld => ?_)
                  clear hK K
                  refine norm_ (a' := ?_) ?_ ?_
                  rotate_left
                  ·show Act.put _ (some 96) _ = _
                   simp only [Act.put, sT, sZ, sS, i64_w, i32_w]
                   rfl
                  refine pure_ (i := 11) (N := some 97) (v := ?_) (a' := ?_) #[true, true, true, true, true, true, true, true, true, true, true, true] rfl rfl (any_of HT_.out (by kernel_rfl)) (fun _ _ _ h => h) (Or.inl ⟨by rfl, ?_⟩) ?_ ?_
                  rotate_left
                  ·intro w'
                   go_simp
                   with_reducible rfl
                  rotate_left
                  ·simp only [Act.put, sT, sZ, sS, i64_w, i32_w]
                   rfl
                  refine done_ (done_of HT_.out (by kernel_rfl)) ?_
                  try go_wp2
                  go_ret
                  exact ⟨zw, bw HB.out⟩
                ·rw [if_neg c58] at H
                 exact absurd H (by simp)
               ·rw [if_neg c57] at H
                exact absurd H (by simp)
              ·rw [if_neg c56] at H
               exact absurd H (by simp)
             ·rw [if_neg c55] at H
              exact absurd H (by simp)
            ·replace c54 := Bool.eq_false_iff.mpr c54
             subst c54
             have H1 : ((impl_Hull.f kj51 t423).bind fun t441 => ((laws_samePts.f kj51 t441 t423).bind fun t444 => (if t444 = true then (some (decide ((t423.length : Int) > 0))) else (some false)))) = some r := by rw [if_neg (show ¬ (false = true) by decide)] at H; exact H
             clear H
             have H := H1
             clear H1
             replace H := Option.bind_eq_some_iff.mp H
             obtain ⟨t441, A650, H⟩ := H
             have A65 := Ak A650
             clear A650
             replace H := Option.bind_eq_some_iff.mp H
             obtain ⟨t444, A660, H⟩ := H
             have A66 := Ak A660
             clear A660
             by_cases c67 : t444 = true
             ·subst c67
              have H1 : (some (decide ((t423.length : Int) > 0))) = some r := by rw [if_pos rfl] at H; exact H
              clear H
              have H := H1
              clear H1
              obtain rfl := Option.some.inj H
              go_wp2_with (first | ((with_reducible refine gate_callee (f := 34) rfl ?_); refine goesL_ (some 99) rfl rfl Try.func34 (by kernel_rfl) rfl #[.slice Ao19 t423.length cq19] rfl gm ?_; (with_reducible refine (impl_Hull.calls kj51 _ _ t423 t441 _ ?side1 ?side2 A65.out).mono ?_); (case side1 => repeat (first | exact (Kd.R_reads' HO_4.out).2.2 | (with_reducible refine Kd.C_alloc ?_ _) | (with_reducible refine Kd.C_drewN ?_ _) | (with_reducible refine Kd.C_drew ?_))); (case side2 => exact HQ425.out); rintro e w68 ⟨v442, rfl, u442, hcl442_, ho0, hb⟩; refine ⟨_, rfl, ?_⟩; have HO443 := Ak (Kd.R_lower (Kd.R_new' (Kd.R_new' ho0 (Kd.R_lt (rq HO_3.out))) (Kd.R_lt (rq HO_4.out))) (below_size (bw HB.out))); replace HO_3 := Ak (Kd.R_elder' (rq HO_3.out) (Kd.R_base ho0) hb); replace HO_4 := Ak (Kd.R_elder' (rq HO_4.out) (Kd.R_base ho0) hb); replace HB := Ak (below_step (bw HB.out) hb); obtain ⟨Ao69, co69, eo69⟩ := Kd.R_slice HO443.out; subst eo69; obtain ⟨A_, n_, c_, cq69, e1_, e2_, hq_⟩ := hcl442_; injection e1_ with f1_ f2_ f3_; subst f1_; subst f2_; subst f3_; subst e2_; have HQ443 := Ak hq_; clear hq_) | ((with_reducible refine gate_callee (f := 41) rfl ?_); refine goesL_ (some 101) rfl rfl Try.func41 (by kernel_rfl) rfl #[.slice Ao69 t441.length cq69, .slice Ao19 t423.length cq19] rfl gm ?_; (with_reducible refine (laws_samePts.calls kj51 _ _ t441 _ _ t423 true _ ?side1 ?side2 ?side3 ?side4 A66.out).mono ?_); (case side1 => repeat (first | exact (Kd.R_reads' HO443.out).2.2 | (with_reducible refine Kd.C_alloc ?_ _) | (with_reducible refine Kd.C_drewN ?_ _) | (with_reducible refine Kd.C_drew ?_))); (case side2 => exact HQ443.out); (case side3 => repeat (first | exact (Kd.R_reads' HO_4.out).2.2 | (with_reducible refine Kd.C_alloc ?_ _) | (with_reducible refine Kd.C_drewN ?_ _) | (with_reducible refine Kd.C_drew ?_))); (case side4 => exact HQ425.out); rintro e w' ⟨rfl, ⟨nd, rfl⟩⟩; refine ⟨_, rfl, ?_⟩))
              go_ret
              exact ⟨zw, bw HB.out⟩
             ·replace c67 := Bool.eq_false_iff.mpr c67
              subst c67
              have H1 : (some false) = some r := by rw [if_neg (show ¬ (false = true) by decide)] at H; exact H
              clear H
              have H := H1
              clear H1
              obtain rfl := Option.some.inj H
              go_wp2_with (first | ((with_reducible refine gate_callee (f := 34) rfl ?_); refine goesL_ (some 99) rfl rfl Try.func34 (by kernel_rfl) rfl #[.slice Ao19 t423.length cq19] rfl gm ?_; (with_reducible refine (impl_Hull.calls kj51 _ _ t423 t441 _ ?side1 ?side2 A65.out).mono ?_); (case side1 => repeat (first | exact (Kd.R_reads' HO_4.out).2.2 | (with_reducible refine Kd.C_alloc ?_ _) | (with_reducible refine Kd.C_drewN ?_ _) | (with_reducible refine Kd.C_drew ?_))); (case side2 => exact HQ425.out); rintro e w70 ⟨v442, rfl, u442, hcl442_, ho0, hb⟩; refine ⟨_, rfl, ?_⟩; have HO443 := Ak (Kd.R_lower (Kd.R_new' (Kd.R_new' ho0 (Kd.R_lt (rq HO_3.out))) (Kd.R_lt (rq HO_4.out))) (below_size (bw HB.out))); replace HO_3 := Ak (Kd.R_elder' (rq HO_3.out) (Kd.R_base ho0) hb); replace HO_4 := Ak (Kd.R_elder' (rq HO_4.out) (Kd.R_base ho0) hb); replace HB := Ak (below_step (bw HB.out) hb); obtain ⟨Ao71, co71, eo71⟩ := Kd.R_slice HO443.out; subst eo71; obtain ⟨A_, n_, c_, cq71, e1_, e2_, hq_⟩ := hcl442_; injection e1_ with f1_ f2_ f3_; subst f1_; subst f2_; subst f3_; subst e2_; have HQ443 := Ak hq_; clear hq_) | ((with_reducible refine gate_callee (f := 41) rfl ?_); refine goesL_ (some 101) rfl rfl Try.func41 (by kernel_rfl) rfl #[.slice Ao71 t441.length cq71, .slice Ao19 t423.length cq19] rfl gm ?_; (with_reducible refine (laws_samePts.calls kj51 _ _ t441 _ _ t423 false _ ?side1 ?side2 ?side3 ?side4 A66.out).mono ?_); (case side1 => repeat (first | exact (Kd.R_reads' HO443.out).2.2 | (with_reducible refine Kd.C_alloc ?_ _) | (with_reducible refine Kd.C_drewN ?_ _) | (with_reducible refine Kd.C_drew ?_))); (case side2 => exact HQ443.out); (case side3 => repeat (first | exact (Kd.R_reads' HO_4.out).2.2 | (with_reducible refine Kd.C_alloc ?_ _) | (with_reducible refine Kd.C_drewN ?_ _) | (with_reducible refine Kd.C_drew ?_))); (case side4 => exact HQ425.out); rintro e w' ⟨rfl, ⟨nd, rfl⟩⟩; refine ⟨_, rfl, ?_⟩))
              go_ret
              exact ⟨zw, bw HB.out⟩

/-- THE ONE PURE STATEMENT of laws_FnHulls: yours. -/
def laws_FnHulls.Pure : Prop := ∀ (l0 : List Int), l0.length ≤ maxLen → l0.length * 1 ≤ 140737488351232 → (∀ x ∈ l0, (Lit.int .u8 x).wf = true) → ∃ k, laws_FnHulls.f k l0 = some true
theorem laws_FnHulls.walk (P : laws_FnHulls.Pure) (a0 : Option Addr) (len0 cap0 : Nat) (z0 : List Int) (w : World) (w0 : (a0 = none ∧ len0 = 0 ∧ cap0 = 0 ∧ z0 = []) ∨ ∃ x, a0 = some x ∧ len0 ≤ cap0 ∧ cap0 ≤ maxLen ∧ z0.length = cap0 ∧ (∀ i, i < z0.length → w.cell? (x.add i) = some (.int .u8 (z0.getD i 0))) ∧ ∀ n ∈ z0, (Lit.int .u8 n).wf = true) (y0 : len0 * 1 ≤ 140737488351232) :
  Calls Try.prog 7 #[.slice a0 len0 cap0] w fun e w' => e = .returned (.bool true) ∧ Below w.heap.size w w' := by
 obtain ⟨l0, rfl, hr0, hm0, hw0, hc0⟩ := ReadsInt.ofRowC w0
 obtain ⟨k, h⟩ := P l0 hm0 y0 hw0
 refine (laws_FnHulls.calls k _ _ l0 true w (Kd.C_of_reads (d := (0 : Int)) (h1 := fun _ => rfl) hr0) hc0 h).mono ?_
 rintro e w' ⟨rfl, hd⟩
 exact ⟨rfl, hd⟩

end Go.Proofs.Ytgmnphckgicadaa.PFnHulls
