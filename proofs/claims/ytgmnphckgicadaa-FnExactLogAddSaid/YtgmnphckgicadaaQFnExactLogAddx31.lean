/- Functions that the law reaches, with their contracts. -/
import Derived.Test.YtgmnphckgicadaaQFnExactLogAddx29
namespace Go.Proofs.Ytgmnphckgicadaa.PFnExactLogAdd
open Go.RowKit Go.Proofs.YtgmnphckgicadaaW.PrintWords Go.Proofs.YtgmnphckgicadaaW.PrintLast Go.Proofs.YtgmnphckgicadaaW.PrintMore
attribute [local go_sem] max2_int min2_int max_two min_two max_three min_three max_four min_four
set_option linter.unusedVariables false
set_option linter.unusedSimpArgs false

def laws_heldWriteS.l0 : Nat → List (S96) → Int → Int → Option (Int)
 | 0, _, _, _ => none
 | k + 1, x0, x1, x5 => if x5 < (x0.length : Int) then (if 0 ≤ x5 then (if ((rd_T96 x0 x5).f0) = x1 then ((laws_heldByteS.f k ((rd_T96 x0 x5).f1) (wrap64 (x1 + 1))).bind fun t451 => (if t451 < 0 then (some (-1)) else (laws_heldWriteS.l0 k x0 t451 (wrap64 (x5 + 1))))) else (some (-1))) else (none)) else (some x1)
def laws_heldWriteS.f (k : Nat) (l0 : List (S96)) (a1 : Int) : Option (Int) := laws_heldWriteS.l0 k l0 a1 0
set_option maxHeartbeats 8000000 in
set_option maxRecDepth 100000 in
theorem laws_heldWriteS.calls (k : Nat) (A0 : Option Addr) (c0 : Nat) (l0 : List (S96)) (a1 : Int) (r : Int) (w : World) (hr0 : Kd.C k96 w A0 l0.length l0) (hc0 : l0.length ≤ c0) (h : laws_heldWriteS.f k l0 a1 = some r) :
  Calls Try.prog 55 #[.slice A0 l0.length c0, .int .i64 a1] w fun e w' => e = .returned (.int .i64 r) ∧ Drawn0 w w' := by
 have HR0 := Ak hr0
 have HC0 := Ak hc0
 clear hr0 hc0
 have H : (laws_heldWriteS.l0 k l0 a1 0) = some r := h
 clear h
 have H' := Ak H
 clear H
 go_enter Try.func55, Try.ntmps55
 go_wp2
 go_loopg [1, 5] k (fun kq v1 v5 w' => ∃ (x1_1 : Int) (x5_1 : Int), v1 = .int .i64 x1_1 ∧ v5 = .int .i64 x5_1 ∧ Aside0 (laws_heldWriteS.l0 kq l0 x1_1 x5_1 = some r) ∧ Aside0 (kq ≤ k) ∧ Drawn0 w w')
 case atStart => exact ⟨(a1), (0), (by first | rfl | (simp; done) | (simp [*]; done)), (by first | rfl | (simp; done) | (simp [*]; done)), H', ⟨Nat.le_refl _⟩, by repeat (first | exact Drawn0.refl _ | apply Drawn0.step)⟩
 case round =>
  clear H'
  obtain ⟨x1_1, x5_1, rfl, rfl, HA, HK1, ⟨m1, rfl⟩⟩ := hrel
  cases gk with
  | zero => exact absurd HA.out (by simp [laws_heldWriteS.l0])
  | succ k1 =>
   have H := HA.out
   clear HA
   simp only [laws_heldWriteS.l0] at H
   by_cases c3 : x5_1 < (l0.length : Int)
   ·rw [if_pos c3] at H
    have c3b0 : decide (x5_1 < (l0.length : Int)) = true := decide_eq_true c3
    clear c3
    by_cases c4 : 0 ≤ x5_1
    ·rw [if_pos c4] at H
     have c4b0 : decide (0 ≤ x5_1) = true := decide_eq_true c4
     clear c4
     by_cases c5 : ((rd_T96 l0 x5_1).f0) = x1_1
     ·rw [if_pos c5] at H
      have c5b0 : (((rd_T96 l0 x5_1).f0) == x1_1) = true := beq_iff_eq.mpr c5
      have c5b1 : (((rd_T96 l0 x5_1).f0) != x1_1) = false := bne_eq_false_iff_eq.mpr c5
      clear c5
      replace H := Option.bind_eq_some_iff.mp H
      obtain ⟨t451, A60, H⟩ := H
      have A6 := Ak A60
      clear A60
      by_cases c7 : t451 < 0
      ·rw [if_pos c7] at H
       have c7b0 : decide (t451 < 0) = true := decide_eq_true c7
       clear c7
       obtain rfl := Option.some.inj H
       have p449 : 0 ≤ (x5_1 : Int) := of_decide_eq_true (by first | (with_reducible assumption) | assumption)
       have q449 : x5_1 < (l0.length : Int) := of_decide_eq_true (by first | (with_reducible assumption) | assumption)
       obtain ⟨ad449, A449_1, c449_1, e449, hx449_0, hx449_1, hl449_1, hi449_1⟩ := at_T96 HR0.out x5_1 p449 q449
       cases e449
       have HR449_1 := Ak hi449_1
       have HC449_1 := Ak hl449_1
       clear hi449_1 hl449_1
       replace p449 := eq_true p449
       replace q449 := eq_true q449
       have p450 : 0 ≤ (x5_1 : Int) := of_decide_eq_true (by first | (with_reducible assumption) | assumption)
       have q450 : x5_1 < (l0.length : Int) := of_decide_eq_true (by first | (with_reducible assumption) | assumption)
       obtain ⟨ad450, A450_1, c450_1, e450, hx450_0, hx450_1, hl450_1, hi450_1⟩ := at_T96 HR0.out x5_1 p450 q450
       obtain rfl : ad449 = ad450 := (by injection e450)
       have HR450_1 := Ak hi450_1
       have HC450_1 := Ak hl450_1
       clear hi450_1 hl450_1
       replace p450 := eq_true p450
       replace q450 := eq_true q450
       have ea_ := Option.some.inj (hx449_1.symm.trans hx450_1)
       injection ea_ with ea_ en_ ec_
       subst ea_
       subst ec_
       clear en_
       go_wp2_with (first | ((with_reducible refine gate_callee (f := 54) rfl ?_); refine goesL_ (some 27) rfl rfl Try.func54 (by kernel_rfl) rfl #[.slice A449_1 ((rd_T96 l0 x5_1).f1).length c449_1, .int .i64 (wrap64 (x1_1 + 1))] rfl gm ?_; (with_reducible refine (laws_heldByteS.calls k1 _ _ ((rd_T96 l0 x5_1).f1) (wrap64 (x1_1 + 1)) t451 _ ?side1 ?side2 A6.out).mono ?_); (case side1 => exact zq HR450_1.out); (case side2 => exact HC450_1.out); rintro e w' ⟨rfl, ⟨nd, rfl⟩⟩; refine ⟨_, rfl, ?_⟩))
       go_ret
       exact ⟨by first | rfl | (simp; done) | (simp [*]; done), by repeat (first | exact Drawn0.refl _ | apply Drawn0.step)⟩
      ·rw [if_neg c7] at H
       have c7b0 : decide (t451 < 0) = false := decide_eq_false c7
       clear c7
       have H' := Ak H
       clear H
       have p449 : 0 ≤ (x5_1 : Int) := of_decide_eq_true (by first | (with_reducible assumption) | assumption)
       have q449 : x5_1 < (l0.length : Int) := of_decide_eq_true (by first | (with_reducible assumption) | assumption)
       obtain ⟨ad449, A449_1, c449_1, e449, hx449_0, hx449_1, hl449_1, hi449_1⟩ := at_T96 HR0.out x5_1 p449 q449
       cases e449
       have HR449_1 := Ak hi449_1
       have HC449_1 := Ak hl449_1
       clear hi449_1 hl449_1
       replace p449 := eq_true p449
       replace q449 := eq_true q449
       have p450 : 0 ≤ (x5_1 : Int) := of_decide_eq_true (by first | (with_reducible assumption) | assumption)
       have q450 : x5_1 < (l0.length : Int) := of_decide_eq_true (by first | (with_reducible assumption) | assumption)
       obtain ⟨ad450, A450_1, c450_1, e450, hx450_0, hx450_1, hl450_1, hi450_1⟩ := at_T96 HR0.out x5_1 p450 q450
       obtain rfl : ad449 = ad450 := (by injection e450)
       have HR450_1 := Ak hi450_1
       have HC450_1 := Ak hl450_1
       clear hi450_1 hl450_1
       replace p450 := eq_true p450
       replace q450 := eq_true q450
       have ea_ := Option.some.inj (hx449_1.symm.trans hx450_1)
       injection ea_ with ea_ en_ ec_
       subst ea_
       subst ec_
       clear en_
       go_wp2_with (first | ((with_reducible refine gate_callee (f := 54) rfl ?_); refine goesL_ (some 27) rfl rfl Try.func54 (by kernel_rfl) rfl #[.slice A449_1 ((rd_T96 l0 x5_1).f1).length c449_1, .int .i64 (wrap64 (x1_1 + 1))] rfl gm ?_; (with_reducible refine (laws_heldByteS.calls k1 _ _ ((rd_T96 l0 x5_1).f1) (wrap64 (x1_1 + 1)) t451 _ ?side1 ?side2 A6.out).mono ?_); (case side1 => exact zq HR450_1.out); (case side2 => exact HC450_1.out); rintro e w' ⟨rfl, ⟨nd, rfl⟩⟩; refine ⟨_, rfl, ?_⟩))
       go_roundg k1
       case measure => have := HK1.out; omega
       case rel => exact ⟨(t451), (wrap64 (x5_1 + 1)), (by first | rfl | (simp; done) | (simp [*]; done)), (by first | rfl | (simp; done) | (simp [*]; done)), H', ⟨by have := HK1.out; omega⟩, by repeat (first | exact Drawn0.refl _ | apply Drawn0.step)⟩
     ·rw [if_neg c5] at H
      have c5b0 : (((rd_T96 l0 x5_1).f0) == x1_1) = false := beq_eq_false_iff_ne.mpr c5
      have c5b1 : (((rd_T96 l0 x5_1).f0) != x1_1) = true := bne_iff_ne.mpr c5
      obtain rfl := Option.some.inj H
      have p449 : 0 ≤ (x5_1 : Int) := of_decide_eq_true (by first | (with_reducible assumption) | assumption)
      have q449 : x5_1 < (l0.length : Int) := of_decide_eq_true (by first | (with_reducible assumption) | assumption)
      obtain ⟨ad449, A449_1, c449_1, e449, hx449_0, hx449_1, hl449_1, hi449_1⟩ := at_T96 HR0.out x5_1 p449 q449
      cases e449
      have HR449_1 := Ak hi449_1
      have HC449_1 := Ak hl449_1
      clear hi449_1 hl449_1
      replace p449 := eq_true p449
      replace q449 := eq_true q449
      go_wp2
      go_ret
      exact ⟨by first | rfl | (simp; done) | (simp [*]; done), by repeat (first | exact Drawn0.refl _ | apply Drawn0.step)⟩
    ·rw [if_neg c4] at H
     exact absurd H (by simp)
   ·rw [if_neg c3] at H
    have c3b0 : decide (x5_1 < (l0.length : Int)) = false := decide_eq_false c3
    clear c3
    obtain rfl := Option.some.inj H
    go_wp2
    go_ret
    exact ⟨by first | rfl | (simp; done) | (simp [*]; done), by repeat (first | exact Drawn0.refl _ | apply Drawn0.step)⟩

def laws_heldDisk.f (k : Nat) (l0_0 : List Int) (l0_1 : List (S96)) (a1 : Int) : Option (Int) := (laws_heldByteS.f k l0_0 a1).bind fun t453 => (if t453 < 0 then (some (-1)) else ((laws_heldWriteS.f k l0_1 t453).bind fun t454 => (if t454 < 0 then (some (-1)) else (some t454))))
set_option maxHeartbeats 8000000 in
set_option maxRecDepth 100000 in
theorem laws_heldDisk.calls (k : Nat) (A0_0 : Option Addr) (c0_0 : Nat) (l0_0 : List Int) (A0_1 : Option Addr) (c0_1 : Nat) (l0_1 : List (S96)) (a1 : Int) (r : Int) (w : World) (hr0_0 : Kd.C (Kd.int .u8) w A0_0 l0_0.length l0_0) (hc0_0 : l0_0.length ≤ c0_0) (hr0_1 : Kd.C k96 w A0_1 l0_1.length l0_1) (hc0_1 : l0_1.length ≤ c0_1) (h : laws_heldDisk.f k l0_0 l0_1 a1 = some r) :
  Calls Try.prog 19 #[.agg #[.slice A0_0 l0_0.length c0_0, .slice A0_1 l0_1.length c0_1], .int .i64 a1] w fun e w' => e = .returned (.int .i64 r) ∧ Below w.heap.size w w' := by
 have hu31 := Try.underlying31
 have HR0_0 := Ak hr0_0
 have HC0_0 := Ak hc0_0
 clear hr0_0 hc0_0
 have HR0_1 := Ak hr0_1
 have HC0_1 := Ak hc0_1
 clear hr0_1 hc0_1
 have HB := Ak (Below.refl w.heap.size w)
 have H : ((laws_heldByteS.f k l0_0 a1).bind fun t453 => (if t453 < 0 then (some (-1)) else ((laws_heldWriteS.f k l0_1 t453).bind fun t454 => (if t454 < 0 then (some (-1)) else (some t454))))) = some r := h
 clear h
 replace H := Option.bind_eq_some_iff.mp H
 obtain ⟨t453, A30, H⟩ := H
 have A3 := Ak A30
 clear A30
 by_cases c4 : t453 < 0
 ·rw [if_pos c4] at H
  have c4b0 : decide (t453 < 0) = true := decide_eq_true c4
  clear c4
  obtain rfl := Option.some.inj H
  go_enter Try.func19, Try.ntmps19
  go_wp2_with (first | ((with_reducible refine gate_dst (N := 2) rfl ?_); refine box_event ?hg (N := 2) ?hd (cs := #[.slice A0_0 l0_0.length c0_0, .slice A0_1 l0_1.length c0_1]) (t := 31) ?hr ?_; (case hd => rfl); (case hg => rfl); (case hr => first | (go_simp; done) | (go_simp; rfl)); intro gb452 hg w5 hbox hb; have BK452 := Ak (hbox); have GW452 := Ak (zb hg (bw HB.out)); have GE452 := Ak (zb hg (bw HB.out)); replace HB := Ak (below_step (bw HB.out) hb); clear hb hbox hg; have hcz6_0 := zk0 BK452.out; have hcz6_1 := zk1 BK452.out; have hfz6_0 := blk_frozen BK452.out 0; have hfz6_1 := blk_frozen BK452.out 1) | ((with_reducible refine gate_callee (f := 54) rfl ?_); refine goesL_ (some 8) rfl rfl Try.func54 (by kernel_rfl) rfl #[.slice A0_0 l0_0.length c0_0, .int .i64 a1] rfl gm ?_; (with_reducible refine (laws_heldByteS.calls k _ _ l0_0 a1 t453 _ ?side1 ?side2 A3.out).mono ?_); (case side1 => exact zq (Kd.C_below HR0_0.out HB.out)); (case side2 => exact HC0_0.out); rintro e w' ⟨rfl, ⟨nd, rfl⟩⟩; refine ⟨_, rfl, ?_⟩))
  go_ret
  exact ⟨zw, bw1 HB.out GE452.out⟩
 ·rw [if_neg c4] at H
  have c4b0 : decide (t453 < 0) = false := decide_eq_false c4
  clear c4
  replace H := Option.bind_eq_some_iff.mp H
  obtain ⟨t454, A70, H⟩ := H
  have A7 := Ak A70
  clear A70
  by_cases c8 : t454 < 0
  ·rw [if_pos c8] at H
   have c8b0 : decide (t454 < 0) = true := decide_eq_true c8
   clear c8
   obtain rfl := Option.some.inj H
   go_enter Try.func19, Try.ntmps19
   go_wp2_with (first | ((with_reducible refine gate_dst (N := 2) rfl ?_); refine box_event ?hg (N := 2) ?hd (cs := #[.slice A0_0 l0_0.length c0_0, .slice A0_1 l0_1.length c0_1]) (t := 31) ?hr ?_; (case hd => rfl); (case hg => rfl); (case hr => first | (go_simp; done) | (go_simp; rfl)); intro gb452 hg w9 hbox hb; have BK452 := Ak (hbox); have GW452 := Ak (zb hg (bw HB.out)); have GE452 := Ak (zb hg (bw HB.out)); replace HB := Ak (below_step (bw HB.out) hb); clear hb hbox hg; have hcz10_0 := zk0 BK452.out; have hcz10_1 := zk1 BK452.out; have hfz10_0 := blk_frozen BK452.out 0; have hfz10_1 := blk_frozen BK452.out 1) | ((with_reducible refine gate_callee (f := 54) rfl ?_); refine goesL_ (some 8) rfl rfl Try.func54 (by kernel_rfl) rfl #[.slice A0_0 l0_0.length c0_0, .int .i64 a1] rfl gm ?_; (with_reducible refine (laws_heldByteS.calls k _ _ l0_0 a1 t453 _ ?side1 ?side2 A3.out).mono ?_); (case side1 => exact zq (Kd.C_below HR0_0.out HB.out)); (case side2 => exact HC0_0.out); rintro e w' ⟨rfl, ⟨nd, rfl⟩⟩; refine ⟨_, rfl, ?_⟩) | ((with_reducible refine gate_callee (f := 55) rfl ?_); refine goesL_ (some 14) rfl rfl Try.func55 (by kernel_rfl) rfl #[.slice A0_1 l0_1.length c0_1, .int .i64 t453] rfl gm ?_; (with_reducible refine (laws_heldWriteS.calls k _ _ l0_1 t453 t454 _ ?side1 ?side2 A7.out).mono ?_); (case side1 => exact zq (Kd.C_below HR0_1.out (bw1 HB.out GE452.out))); (case side2 => exact HC0_1.out); rintro e w' ⟨rfl, ⟨nd, rfl⟩⟩; refine ⟨_, rfl, ?_⟩))
   go_ret
   exact ⟨zw, bw1 HB.out GE452.out⟩
  ·rw [if_neg c8] at H
   have c8b0 : decide (t454 < 0) = false := decide_eq_false c8
   clear c8
   obtain rfl := Option.some.inj H
   go_enter Try.func19, Try.ntmps19
   go_wp2_with (first | ((with_reducible refine gate_dst (N := 2) rfl ?_); refine box_event ?hg (N := 2) ?hd (cs := #[.slice A0_0 l0_0.length c0_0, .slice A0_1 l0_1.length c0_1]) (t := 31) ?hr ?_; (case hd => rfl); (case hg => rfl); (case hr => first | (go_simp; done) | (go_simp; rfl)); intro gb452 hg w11 hbox hb; have BK452 := Ak (hbox); have GW452 := Ak (zb hg (bw HB.out)); have GE452 := Ak (zb hg (bw HB.out)); replace HB := Ak (below_step (bw HB.out) hb); clear hb hbox hg; have hcz12_0 := zk0 BK452.out; have hcz12_1 := zk1 BK452.out; have hfz12_0 := blk_frozen BK452.out 0; have hfz12_1 := blk_frozen BK452.out 1) | ((with_reducible refine gate_callee (f := 54) rfl ?_); refine goesL_ (some 8) rfl rfl Try.func54 (by kernel_rfl) rfl #[.slice A0_0 l0_0.length c0_0, .int .i64 a1] rfl gm ?_; (with_reducible refine (laws_heldByteS.calls k _ _ l0_0 a1 t453 _ ?side1 ?side2 A3.out).mono ?_); (case side1 => exact zq (Kd.C_below HR0_0.out HB.out)); (case side2 => exact HC0_0.out); rintro e w' ⟨rfl, ⟨nd, rfl⟩⟩; refine ⟨_, rfl, ?_⟩) | ((with_reducible refine gate_callee (f := 55) rfl ?_); refine goesL_ (some 14) rfl rfl Try.func55 (by kernel_rfl) rfl #[.slice A0_1 l0_1.length c0_1, .int .i64 t453] rfl gm ?_; (with_reducible refine (laws_heldWriteS.calls k _ _ l0_1 t453 t454 _ ?side1 ?side2 A7.out).mono ?_); (case side1 => exact zq (Kd.C_below HR0_1.out (bw1 HB.out GE452.out))); (case side2 => exact HC0_1.out); rintro e w' ⟨rfl, ⟨nd, rfl⟩⟩; refine ⟨_, rfl, ?_⟩))
   go_ret
   exact ⟨zw, bw1 HB.out GE452.out⟩

end Go.Proofs.Ytgmnphckgicadaa.PFnExactLogAdd

