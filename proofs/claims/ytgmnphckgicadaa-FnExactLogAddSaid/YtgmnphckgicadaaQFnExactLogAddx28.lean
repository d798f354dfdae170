/- Functions that the law reaches, with their contracts. -/
import Derived.Test.YtgmnphckgicadaaQFnExactLogAddx27
namespace Go.Proofs.Ytgmnphckgicadaa.PFnExactLogAdd
open Go.RowKit Go.Proofs.YtgmnphckgicadaaW.PrintWords Go.Proofs.YtgmnphckgicadaaW.PrintLast Go.Proofs.YtgmnphckgicadaaW.PrintMore
attribute [local go_sem] max2_int min2_int max_two min_two max_three min_three max_four min_four
set_option linter.unusedVariables false
set_option linter.unusedSimpArgs false

def laws_eqDisk.f (k : Nat) (l0_0 : List Int) (l0_1 : List (S96)) (l1_0 : List Int) (l1_1 : List (S96)) : Option (Bool) := (laws_eqByteS.f k l0_0 l1_0).bind fun t436 => (if t436 = true then ((laws_eqWriteS.f k l0_1 l1_1).bind fun t437 => (if t437 = true then (some true) else (some false))) else (some false))
set_option maxHeartbeats 8000000 in
set_option maxRecDepth 100000 in
theorem laws_eqDisk.calls (k : Nat) (A0_0 : Option Addr) (c0_0 : Nat) (l0_0 : List Int) (A0_1 : Option Addr) (c0_1 : Nat) (l0_1 : List (S96)) (A1_0 : Option Addr) (c1_0 : Nat) (l1_0 : List Int) (A1_1 : Option Addr) (c1_1 : Nat) (l1_1 : List (S96)) (r : Bool) (w : World) (hr0_0 : Kd.C (Kd.int .u8) w A0_0 l0_0.length l0_0) (hc0_0 : l0_0.length ≤ c0_0) (hr0_1 : Kd.C k96 w A0_1 l0_1.length l0_1) (hc0_1 : l0_1.length ≤ c0_1) (hr1_0 : Kd.C (Kd.int .u8) w A1_0 l1_0.length l1_0) (hc1_0 : l1_0.length ≤ c1_0) (hr1_1 : Kd.C k96 w A1_1 l1_1.length l1_1) (hc1_1 : l1_1.length ≤ c1_1) (h : laws_eqDisk.f k l0_0 l0_1 l1_0 l1_1 = some r) :
  Calls Try.prog 14 #[.agg #[.slice A0_0 l0_0.length c0_0, .slice A0_1 l0_1.length c0_1], .agg #[.slice A1_0 l1_0.length c1_0, .slice A1_1 l1_1.length c1_1]] w fun e w' => e = .returned (.bool r) ∧ Below w.heap.size w w' := by
 have hu31 := Try.underlying31
 have HR0_0 := Ak hr0_0
 have HC0_0 := Ak hc0_0
 clear hr0_0 hc0_0
 have HR0_1 := Ak hr0_1
 have HC0_1 := Ak hc0_1
 clear hr0_1 hc0_1
 have HR1_0 := Ak hr1_0
 have HC1_0 := Ak hc1_0
 clear hr1_0 hc1_0
 have HR1_1 := Ak hr1_1
 have HC1_1 := Ak hc1_1
 clear hr1_1 hc1_1
 have HB := Ak (Below.refl w.heap.size w)
 have H : ((laws_eqByteS.f k l0_0 l1_0).bind fun t436 => (if t436 = true then ((laws_eqWriteS.f k l0_1 l1_1).bind fun t437 => (if t437 = true then (some true) else (some false))) else (some false))) = some r := h
 clear h
 replace H := Option.bind_eq_some_iff.mp H
 obtain ⟨t436, A30, H⟩ := H
 have A3 := Ak A30
 clear A30
 by_cases c4 : t436 = true
 ·subst c4
  have H1 : ((laws_eqWriteS.f k l0_1 l1_1).bind fun t437 => (if t437 = true then (some true) else (some false))) = some r := by rw [if_pos rfl] at H; exact H
  clear H
  have H := H1
  clear H1
  replace H := Option.bind_eq_some_iff.mp H
  obtain ⟨t437, A50, H⟩ := H
  have A5 := Ak A50
  clear A50
  by_cases c6 : t437 = true
  ·subst c6
   have H1 : (some true) = some r := by rw [if_pos rfl] at H; exact H
   clear H
   have H := H1
   clear H1
   obtain rfl := Option.some.inj H
   go_enter Try.func14, Try.ntmps14
   go_wp2_with (first | ((with_reducible refine gate_dst (N := 2) rfl ?_); refine box_event ?hg (N := 2) ?hd (cs := #[.slice A0_0 l0_0.length c0_0, .slice A0_1 l0_1.length c0_1]) (t := 31) ?hr ?_; (case hd => rfl); (case hg => rfl); (case hr => first | (go_simp; done) | (go_simp; rfl)); intro gb434 hg w7 hbox hb; have BK434 := Ak (hbox); have GW434 := Ak (zb hg (bw HB.out)); have GE434 := Ak (zb hg (bw HB.out)); replace HB := Ak (below_step (bw HB.out) hb); clear hb hbox hg) | ((with_reducible refine gate_dst (N := 3) rfl ?_); refine box_event ?hg (N := 3) ?hd (cs := #[.slice A1_0 l1_0.length c1_0, .slice A1_1 l1_1.length c1_1]) (t := 31) ?hr ?_; (case hd => rfl); (case hg => rfl); (case hr => first | (go_simp; done) | (go_simp; rfl)); intro gb435 hg w8 hbox hb; have BK435 := Ak (hbox); have GW435 := Ak (zb hg (bw1 HB.out GE434.out)); have GE435 := Ak (zb hg (bw1 HB.out GE434.out)); replace HB := Ak (below_step (bw1 HB.out GE434.out) hb); have NB434_435 := Ak (zl hg (bq BK434.out)); have NB435_434 := Ak (zm hg (bq BK434.out)); replace BK434 := Ak (blk_below (bq BK434.out) hb); clear hb hbox hg; have hnb9 := NB434_435.out; have hnc9 := NB435_434.out; have hcz10_0 := zk0 BK434.out; have hcz10_1 := zk1 BK434.out; have hfz10_0 := blk_frozen BK434.out 0; have hfz10_1 := blk_frozen BK434.out 1; have hcz11_0 := zk0 BK435.out; have hcz11_1 := zk1 BK435.out; have hfz11_0 := blk_frozen BK435.out 0; have hfz11_1 := blk_frozen BK435.out 1) | ((with_reducible refine gate_callee (f := 16) rfl ?_); refine goesL_ (some 9) rfl rfl Try.func16 (by kernel_rfl) rfl #[.slice A0_0 l0_0.length c0_0, .slice A1_0 l1_0.length c1_0] rfl gm ?_; (with_reducible refine (laws_eqByteS.calls k _ _ l0_0 _ _ l1_0 true _ ?side1 ?side2 ?side3 ?side4 A3.out).mono ?_); (case side1 => exact zq (Kd.C_below HR0_0.out HB.out)); (case side2 => exact HC0_0.out); (case side3 => exact zq (Kd.C_below HR1_0.out HB.out)); (case side4 => exact HC1_0.out); rintro e w' ⟨rfl, ⟨nd, rfl⟩⟩; refine ⟨_, rfl, ?_⟩) | ((with_reducible refine gate_callee (f := 52) rfl ?_); refine goesL_ (some 15) rfl rfl Try.func52 (by kernel_rfl) rfl #[.slice A0_1 l0_1.length c0_1, .slice A1_1 l1_1.length c1_1] rfl gm ?_; (with_reducible refine (laws_eqWriteS.calls k _ _ l0_1 _ _ l1_1 true _ ?side1 ?side2 ?side3 ?side4 A5.out).mono ?_); (case side1 => exact zq (Kd.C_below HR0_1.out (bw2 HB.out GE434.out GE435.out))); (case side2 => exact HC0_1.out); (case side3 => exact zq (Kd.C_below HR1_1.out (bw2 HB.out GE434.out GE435.out))); (case side4 => exact HC1_1.out); rintro e w12 ⟨rfl, hb⟩; refine ⟨_, rfl, ?_⟩; replace BK434 := Ak (blk_below (bq BK434.out) hb); replace BK435 := Ak (blk_below (bq BK435.out) hb); replace HB := Ak (below_step (bw2 HB.out GE434.out GE435.out) hb)))
   go_ret
   exact ⟨zw, bw2 HB.out GE434.out GE435.out⟩
  ·replace c6 := Bool.eq_false_iff.mpr c6
   subst c6
   have H1 : (some false) = some r := by rw [if_neg (show ¬ (false = true) by decide)] at H; exact H
   clear H
   have H := H1
   clear H1
   obtain rfl := Option.some.inj H
   go_enter Try.func14, Try.ntmps14
   go_wp2_with (first | ((with_reducible refine gate_dst (N := 2) rfl ?_); refine box_event ?hg (N := 2) ?hd (cs := #[.slice A0_0 l0_0.length c0_0, .slice A0_1 l0_1.length c0_1]) (t := 31) ?hr ?_; (case hd => rfl); (case hg => rfl); (case hr => first | (go_simp; done) | (go_simp; rfl)); intro gb434 hg w13 hbox hb; have BK434 := Ak (hbox); have GW434 := Ak (zb hg (bw HB.out)); have GE434 := Ak (zb hg (bw HB.out)); replace HB := Ak (below_step (bw HB.out) hb); clear hb hbox hg) | ((with_reducible refine gate_dst (N := 3) rfl ?_); refine box_event ?hg (N := 3) ?hd (cs := #[.slice A1_0 l1_0.length c1_0, .slice A1_1 l1_1.length c1_1]) (t := 31) ?hr ?_; (case hd => rfl); (case hg => rfl); (case hr => first | (go_simp; done) | (go_simp; rfl)); intro gb435 hg w14 hbox hb; have BK435 := Ak (hbox); have GW435 := Ak (zb hg (bw1 HB.out GE434.out)); have GE435 := Ak (zb hg (bw1 HB.out GE434.out)); replace HB := Ak (below_step (bw1 HB.out GE434.out) hb); have NB434_435 := Ak (zl hg (bq BK434.out)); have NB435_434 := Ak (zm hg (bq BK434.out)); replace BK434 := Ak (blk_below (bq BK434.out) hb); clear hb hbox hg; have hnb15 := NB434_435.out; have hnc15 := NB435_434.out; have hcz16_0 := zk0 BK434.out; have hcz16_1 := zk1 BK434.out; have hfz16_0 := blk_frozen BK434.out 0; have hfz16_1 := blk_frozen BK434.out 1; have hcz17_0 := zk0 BK435.out; have hcz17_1 := zk1 BK435.out; have hfz17_0 := blk_frozen BK435.out 0; have hfz17_1 := blk_frozen BK435.out 1) | ((with_reducible refine gate_callee (f := 16) rfl ?_); refine goesL_ (some 9) rfl rfl Try.func16 (by kernel_rfl) rfl #[.slice A0_0 l0_0.length c0_0, .slice A1_0 l1_0.length c1_0] rfl gm ?_; (with_reducible refine (laws_eqByteS.calls k _ _ l0_0 _ _ l1_0 true _ ?side1 ?side2 ?side3 ?side4 A3.out).mono ?_); (case side1 => exact zq (Kd.C_below HR0_0.out HB.out)); (case side2 => exact HC0_0.out); (case side3 => exact zq (Kd.C_below HR1_0.out HB.out)); (case side4 => exact HC1_0.out); rintro e w' ⟨rfl, ⟨nd, rfl⟩⟩; refine ⟨_, rfl, ?_⟩) | ((with_reducible refine gate_callee (f := 52) rfl ?_); refine goesL_ (some 15) rfl rfl Try.func52 (by kernel_rfl) rfl #[.slice A0_1 l0_1.length c0_1, .slice A1_1 l1_1.length c1_1] rfl gm ?_; (with_reducible refine (laws_eqWriteS.calls k _ _ l0_1 _ _ l1_1 false _ ?side1 ?side2 ?side3 ?side4 A5.out).mono ?_); (case side1 => exact zq (Kd.C_below HR0_1.out (bw2 HB.out GE434.out GE435.out))); (case side2 => exact HC0_1.out); (case side3 => exact zq (Kd.C_below HR1_1.out (bw2 HB.out GE434.out GE435.out))); (case side4 => exact HC1_1.out); rintro e w18 ⟨rfl, hb⟩; refine ⟨_, rfl, ?_⟩; replace BK434 := Ak (blk_below (bq BK434.out) hb); replace BK435 := Ak (blk_below (bq BK435.out) hb); replace HB := Ak (below_step (bw2 HB.out GE434.out GE435.out) hb)))
   go_ret
   exact ⟨zw, bw2 HB.out GE434.out GE435.out⟩
 ·replace c4 := Bool.eq_false_iff.mpr c4
  subst c4
  have H1 : (some false) = some r := by rw [if_neg (show ¬ (false = true) by decide)] at H; exact H
  clear H
  have H := H1
  clear H1
  obtain rfl := Option.some.inj H
  go_enter Try.func14, Try.ntmps14
  go_wp2_with (first | ((with_reducible refine gate_dst (N := 2) rfl ?_); refine box_event ?hg (N := 2) ?hd (cs := #[.slice A0_0 l0_0.length c0_0, .slice A0_1 l0_1.length c0_1]) (t := 31) ?hr ?_; (case hd => rfl); (case hg => rfl); (case hr => first | (go_simp; done) | (go_simp; rfl)); intro gb434 hg w19 hbox hb; have BK434 := Ak (hbox); have GW434 := Ak (zb hg (bw HB.out)); have GE434 := Ak (zb hg (bw HB.out)); replace HB := Ak (below_step (bw HB.out) hb); clear hb hbox hg) | ((with_reducible refine gate_dst (N := 3) rfl ?_); refine box_event ?hg (N := 3) ?hd (cs := #[.slice A1_0 l1_0.length c1_0, .slice A1_1 l1_1.length c1_1]) (t := 31) ?hr ?_; (case hd => rfl); (case hg => rfl); (case hr => first | (go_simp; done) | (go_simp; rfl)); intro gb435 hg w20 hbox hb; have BK435 := Ak (hbox); have GW435 := Ak (zb hg (bw1 HB.out GE434.out)); have GE435 := Ak (zb hg (bw1 HB.out GE434.out)); replace HB := Ak (below_step (bw1 HB.out GE434.out) hb); have NB434_435 := Ak (zl hg (bq BK434.out)); have NB435_434 := Ak (zm hg (bq BK434.out)); replace BK434 := Ak (blk_below (bq BK434.out) hb); clear hb hbox hg; have hnb21 := NB434_435.out; have hnc21 := NB435_434.out; have hcz22_0 := zk0 BK434.out; have hcz22_1 := zk1 BK434.out; have hfz22_0 := blk_frozen BK434.out 0; have hfz22_1 := blk_frozen BK434.out 1; have hcz23_0 := zk0 BK435.out; have hcz23_1 := zk1 BK435.out; have hfz23_0 := blk_frozen BK435.out 0; have hfz23_1 := blk_frozen BK435.out 1) | ((with_reducible refine gate_callee (f := 16) rfl ?_); refine goesL_ (some 9) rfl rfl Try.func16 (by kernel_rfl) rfl #[.slice A0_0 l0_0.length c0_0, .slice A1_0 l1_0.length c1_0] rfl gm ?_; (with_reducible refine (laws_eqByteS.calls k _ _ l0_0 _ _ l1_0 false _ ?side1 ?side2 ?side3 ?side4 A3.out).mono ?_); (case side1 => exact zq (Kd.C_below HR0_0.out HB.out)); (case side2 => exact HC0_0.out); (case side3 => exact zq (Kd.C_below HR1_0.out HB.out)); (case side4 => exact HC1_0.out); rintro e w' ⟨rfl, ⟨nd, rfl⟩⟩; refine ⟨_, rfl, ?_⟩))
  go_ret
  exact ⟨zw, bw2 HB.out GE434.out GE435.out⟩

def laws_eqLog.f (a0_0 : Int) (a0_1 : Int) (a0_2 : Int) (a0_3 : Int) (a1_0 : Int) (a1_1 : Int) (a1_2 : Int) (a1_3 : Int) : Option (Bool) := if a0_0 = a1_0 then (if a0_1 = a1_1 then (if a0_2 = a1_2 then (if a0_3 = a1_3 then (some true) else (some false)) else (some false)) else (some false)) else (some false)
set_option maxHeartbeats 8000000 in
set_option maxRecDepth 100000 in
theorem laws_eqLog.calls (a0_0 : Int) (a0_1 : Int) (a0_2 : Int) (a0_3 : Int) (a1_0 : Int) (a1_1 : Int) (a1_2 : Int) (a1_3 : Int) (r : Bool) (w : World) (h : laws_eqLog.f a0_0 a0_1 a0_2 a0_3 a1_0 a1_1 a1_2 a1_3 = some r) :
  Calls Try.prog 15 #[.agg #[.int .i64 a0_0, .int .i64 a0_1, .int .i64 a0_2, .int .i64 a0_3], .agg #[.int .i64 a1_0, .int .i64 a1_1, .int .i64 a1_2, .int .i64 a1_3]] w fun e w' => e = .returned (.bool r) ∧ Below w.heap.size w w' := by
 have hu32 := Try.underlying32
 have HB := Ak (Below.refl w.heap.size w)
 have H : (if a0_0 = a1_0 then (if a0_1 = a1_1 then (if a0_2 = a1_2 then (if a0_3 = a1_3 then (some true) else (some false)) else (some false)) else (some false)) else (some false)) = some r := h
 clear h
 by_cases c3 : a0_0 = a1_0
 ·rw [if_pos c3] at H
  have c3b0 : (a0_0 == a1_0) = true := beq_iff_eq.mpr c3
  have c3b1 : (a0_0 != a1_0) = false := bne_eq_false_iff_eq.mpr c3
  clear c3
  by_cases c4 : a0_1 = a1_1
  ·rw [if_pos c4] at H
   have c4b0 : (a0_1 == a1_1) = true := beq_iff_eq.mpr c4
   have c4b1 : (a0_1 != a1_1) = false := bne_eq_false_iff_eq.mpr c4
   clear c4
   by_cases c5 : a0_2 = a1_2
   ·rw [if_pos c5] at H
    have c5b0 : (a0_2 == a1_2) = true := beq_iff_eq.mpr c5
    have c5b1 : (a0_2 != a1_2) = false := bne_eq_false_iff_eq.mpr c5
    clear c5
    by_cases c6 : a0_3 = a1_3
    ·rw [if_pos c6] at H
     have c6b0 : (a0_3 == a1_3) = true := beq_iff_eq.mpr c6
     have c6b1 : (a0_3 != a1_3) = false := bne_eq_false_iff_eq.mpr c6
     clear c6
     obtain rfl := Option.some.inj H
     go_enter Try.func15, Try.ntmps15
     go_wp2_with (first | ((with_reducible refine gate_dst (N := 2) rfl ?_); refine box_event ?hg (N := 2) ?hd (cs := #[.int .i64 a0_0, .int .i64 a0_1, .int .i64 a0_2, .int .i64 a0_3]) (t := 32) ?hr ?_; (case hd => rfl); (case hg => rfl); (case hr => first | (go_simp; done) | (go_simp; rfl)); intro gb438 hg w7 hbox hb; have BK438 := Ak (hbox); have GW438 := Ak (zb hg (bw HB.out)); have GE438 := Ak (zb hg (bw HB.out)); replace HB := Ak (below_step (bw HB.out) hb); clear hb hbox hg) | ((with_reducible refine gate_dst (N := 3) rfl ?_); refine box_event ?hg (N := 3) ?hd (cs := #[.int .i64 a1_0, .int .i64 a1_1, .int .i64 a1_2, .int .i64 a1_3]) (t := 32) ?hr ?_; (case hd => rfl); (case hg => rfl); (case hr => first | (go_simp; done) | (go_simp; rfl)); intro gb439 hg w8 hbox hb; have BK439 := Ak (hbox); have GW439 := Ak (zb hg (bw1 HB.out GE438.out)); have GE439 := Ak (zb hg (bw1 HB.out GE438.out)); replace HB := Ak (below_step (bw1 HB.out GE438.out) hb); have NB438_439 := Ak (zl hg (bq BK438.out)); have NB439_438 := Ak (zm hg (bq BK438.out)); replace BK438 := Ak (blk_below (bq BK438.out) hb); clear hb hbox hg; have hnb9 := NB438_439.out; have hnc9 := NB439_438.out; have hcz10_0 := zk0 BK438.out; have hcz10_1 := zk1 BK438.out; have hcz10_2 := zk2 BK438.out; have hcz10_3 := zk3 BK438.out; have hfz10_0 := blk_frozen BK438.out 0; have hfz10_1 := blk_frozen BK438.out 1; have hfz10_2 := blk_frozen BK438.out 2; have hfz10_3 := blk_frozen BK438.out 3; have hcz11_0 := zk0 BK439.out; have hcz11_1 := zk1 BK439.out; have hcz11_2 := zk2 BK439.out; have hcz11_3 := zk3 BK439.out; have hfz11_0 := blk_frozen BK439.out 0; have hfz11_1 := blk_frozen BK439.out 1; have hfz11_2 := blk_frozen BK439.out 2; have hfz11_3 := blk_frozen BK439.out 3))
     go_ret
     exact ⟨zw, bw2 HB.out GE438.out GE439.out⟩
    ·rw [if_neg c6] at H
     have c6b0 : (a0_3 == a1_3) = false := beq_eq_false_iff_ne.mpr c6
     have c6b1 : (a0_3 != a1_3) = true := bne_iff_ne.mpr c6
     obtain rfl := Option.some.inj H
     go_enter Try.func15, Try.ntmps15
     go_wp2_with (first | ((with_reducible refine gate_dst (N := 2) rfl ?_); refine box_event ?hg (N := 2) ?hd (cs := #[.int .i64 a0_0, .int .i64 a0_1, .int .i64 a0_2, .int .i64 a0_3]) (t := 32) ?hr ?_; (case hd => rfl); (case hg => rfl); (case hr => first | (go_simp; done) | (go_simp; rfl)); intro gb438 hg w12 hbox hb; have BK438 := Ak (hbox); have GW438 := Ak (zb hg (bw HB.out)); have GE438 := Ak (zb hg (bw HB.out)); replace HB := Ak (below_step (bw HB.out) hb); clear hb hbox hg) | ((with_reducible refine gate_dst (N := 3) rfl ?_); refine box_event ?hg (N := 3) ?hd (cs := #[.int .i64 a1_0, .int .i64 a1_1, .int .i64 a1_2, .int .i64 a1_3]) (t := 32) ?hr ?_; (case hd => rfl); (case hg => rfl); (case hr => first | (go_simp; done) | (go_simp; rfl)); intro gb439 hg w13 hbox hb; have BK439 := Ak (hbox); have GW439 := Ak (zb hg (bw1 HB.out GE438.out)); have GE439 := Ak (zb hg (bw1 HB.out GE438.out)); replace HB := Ak (below_step (bw1 HB.out GE438.out) hb); have NB438_439 := Ak (zl hg (bq BK438.out)); have NB439_438 := Ak (zm hg (bq BK438.out)); replace BK438 := Ak (blk_below (bq BK438.out) hb); clear hb hbox hg; have hnb14 := NB438_439.out; have hnc14 := NB439_438.out; have hcz15_0 := zk0 BK438.out; have hcz15_1 := zk1 BK438.out; have hcz15_2 := zk2 BK438.out; have hcz15_3 := zk3 BK438.out; have hfz15_0 := blk_frozen BK438.out 0; have hfz15_1 := blk_frozen BK438.out 1; have hfz15_2 := blk_frozen BK438.out 2; have hfz15_3 := blk_frozen BK438.out 3; have hcz16_0 := zk0 BK439.out; have hcz16_1 := zk1 BK439.out; have hcz16_2 := zk2 BK439.out; have hcz16_3 := zk3 BK439.out; have hfz16_0 := blk_frozen BK439.out 0; have hfz16_1 := blk_frozen BK439.out 1; have hfz16_2 := blk_frozen BK439.out 2; have hfz16_3 := blk_frozen BK439.out 3))
     go_ret
     exact ⟨zw, bw2 HB.out GE438.out GE439.out⟩
   ·rw [if_neg c5] at H
    have c5b0 : (a0_2 == a1_2) = false := beq_eq_false_iff_ne.mpr c5
    have c5b1 : (a0_2 != a1_2) = true := bne_iff_ne.mpr c5
    obtain rfl := Option.some.inj H
    go_enter Try.func15, Try.ntmps15
    go_wp2_with (first | ((with_reducible refine gate_dst (N := 2) rfl ?_); refine box_event ?hg (N := 2) ?hd (cs := #[.int .i64 a0_0, .int .i64 a0_1, .int .i64 a0_2, .int .i64 a0_3]) (t := 32) ?hr ?_; (case hd => rfl); (case hg => rfl); (case hr => first | (go_simp; done) | (go_simp; rfl)); intro gb438 hg w17 hbox hb; have BK438 := Ak (hbox); have GW438 := Ak (zb hg (bw HB.out)); have GE438 := Ak (zb hg (bw HB.out)); replace HB := Ak (below_step (bw HB.out) hb); clear hb hbox hg) | ((with_reducible refine gate_dst (N := 3) rfl ?_); refine box_event ?hg (N := 3) ?hd (cs := #[.int .i64 a1_0, .int .i64 a1_1, .int .i64 a1_2, .int .i64 a1_3]) (t := 32) ?hr ?_; (case hd => rfl); (case hg => rfl); (case hr => first | (go_simp; done) | (go_simp; rfl)); intro gb439 hg w18 hbox hb; have BK439 := Ak (hbox); have GW439 := Ak (zb hg (bw1 HB.out GE438.out)); have GE439 := Ak (zb hg (bw1 HB.out GE438.out)); replace HB := Ak (below_step (bw1 HB.out GE438.out) hb); have NB438_439 := Ak (zl hg (bq BK438.out)); have NB439_438 := Ak (zm hg (bq BK438.out)); replace BK438 := Ak (blk_below (bq BK438.out) hb); clear hb hbox hg; have hnb19 := NB438_439.out; have hnc19 := NB439_438.out; have hcz20_0 := zk0 BK438.out; have hcz20_1 := zk1 BK438.out; have hcz20_2 := zk2 BK438.out; have hcz20_3 := zk3 BK438.out; have hfz20_0 := blk_frozen BK438.out 0; have hfz20_1 := blk_frozen BK438.out 1; have hfz20_2 := blk_frozen BK438.out 2; have hfz20_3 := blk_frozen BK438.out 3; have hcz21_0 := zk0 BK439.out; have hcz21_1 := zk1 BK439.out; have hcz21_2 := zk2 BK439.out; have hcz21_3 := zk3 BK439.out; have hfz21_0 := blk_frozen BK439.out 0; have hfz21_1 := blk_frozen BK439.out 1; have hfz21_2 := blk_frozen BK439.out 2; have hfz21_3 := blk_frozen BK439.out 3))
    go_ret
    exact ⟨zw, bw2 HB.out GE438.out GE439.out⟩
  ·rw [if_neg c4] at H
   have c4b0 : (a0_1 == a1_1) = false := beq_eq_false_iff_ne.mpr c4
   have c4b1 : (a0_1 != a1_1) = true := bne_iff_ne.mpr c4
   obtain rfl := Option.some.inj H
   go_enter Try.func15, Try.ntmps15
   go_wp2_with (first | ((with_reducible refine gate_dst (N := 2) rfl ?_); refine box_event ?hg (N := 2) ?hd (cs := #[.int .i64 a0_0, .int .i64 a0_1, .int .i64 a0_2, .int .i64 a0_3]) (t := 32) ?hr ?_; (case hd => rfl); (case hg => rfl); (case hr => first | (go_simp; done) | (go_simp; rfl)); intro gb438 hg w22 hbox hb; have BK438 := Ak (hbox); have GW438 := Ak (zb hg (bw HB.out)); have GE438 := Ak (zb hg (bw HB.out)); replace HB := Ak (below_step (bw HB.out) hb); clear hb hbox hg) | ((with_reducible refine gate_dst (N := 3) rfl ?_); refine box_event ?hg (N := 3) ?hd (cs := #[.int .i64 a1_0, .int .i64 a1_1, .int .i64 a1_2, .int .i64 a1_3]) (t := 32) ?hr ?_; (case hd => rfl); (case hg => rfl); (case hr => first | (go_simp; done) | (go_simp; rfl)); intro gb439 hg w23 hbox hb; have BK439 := Ak (hbox); have GW439 := Ak (zb hg (bw1 HB.out GE438.out)); have GE439 := Ak (zb hg (bw1 HB.out GE438.out)); replace HB := Ak (below_step (bw1 HB.out GE438.out) hb); have NB438_439 := Ak (zl hg (bq BK438.out)); have NB439_438 := Ak (zm hg (bq BK438.out)); replace BK438 := Ak (blk_below (bq BK438.out) hb); clear hb hbox hg; have hnb24 := NB438_439.out; have hnc24 := NB439_438.out; have hcz25_0 := zk0 BK438.out; have hcz25_1 := zk1 BK438.out; have hcz25_2 := zk2 BK438.out; have hcz25_3 := zk3 BK438.out; have hfz25_0 := blk_frozen BK438.out 0; have hfz25_1 := blk_frozen BK438.out 1; have hfz25_2 := blk_frozen BK438.out 2; have hfz25_3 := blk_frozen BK438.out 3; have hcz26_0 := zk0 BK439.out; have hcz26_1 := zk1 BK439.out; have hcz26_2 := zk2 BK439.out; have hcz26_3 := zk3 BK439.out; have hfz26_0 := blk_frozen BK439.out 0; have hfz26_1 := blk_frozen BK439.out 1; have hfz26_2 := blk_frozen BK439.out 2; have hfz26_3 := blk_frozen BK439.out 3))
   go_ret
   exact ⟨zw, bw2 HB.out GE438.out GE439.out⟩
 ·rw [if_neg c3] at H
  have c3b0 : (a0_0 == a1_0) = false := beq_eq_false_iff_ne.mpr c3
  have c3b1 : (a0_0 != a1_0) = true := bne_iff_ne.mpr c3
  obtain rfl := Option.some.inj H
  go_enter Try.func15, Try.ntmps15
  go_wp2_with (first | ((with_reducible refine gate_dst (N := 2) rfl ?_); refine box_event ?hg (N := 2) ?hd (cs := #[.int .i64 a0_0, .int .i64 a0_1, .int .i64 a0_2, .int .i64 a0_3]) (t := 32) ?hr ?_; (case hd => rfl); (case hg => rfl); (case hr => first | (go_simp; done) | (go_simp; rfl)); intro gb438 hg w27 hbox hb; have BK438 := Ak (hbox); have GW438 := Ak (zb hg (bw HB.out)); have GE438 := Ak (zb hg (bw HB.out)); replace HB := Ak (below_step (bw HB.out) hb); clear hb hbox hg) | ((with_reducible refine gate_dst (N := 3) rfl ?_); refine box_event ?hg (N := 3) ?hd (cs := #[.int .i64 a1_0, .int .i64 a1_1, .int .i64 a1_2, .int .i64 a1_3]) (t := 32) ?hr ?_; (case hd => rfl); (case hg => rfl); (case hr => first | (go_simp; done) | (go_simp; rfl)); intro gb439 hg w28 hbox hb; have BK439 := Ak (hbox); have GW439 := Ak (zb hg (bw1 HB.out GE438.out)); have GE439 := Ak (zb hg (bw1 HB.out GE438.out)); replace HB := Ak (below_step (bw1 HB.out GE438.out) hb); have NB438_439 := Ak (zl hg (bq BK438.out)); have NB439_438 := Ak (zm hg (bq BK438.out)); replace BK438 := Ak (blk_below (bq BK438.out) hb); clear hb hbox hg; have hnb29 := NB438_439.out; have hnc29 := NB439_438.out; have hcz30_0 := zk0 BK438.out; have hcz30_1 := zk1 BK438.out; have hcz30_2 := zk2 BK438.out; have hcz30_3 := zk3 BK438.out; have hfz30_0 := blk_frozen BK438.out 0; have hfz30_1 := blk_frozen BK438.out 1; have hfz30_2 := blk_frozen BK438.out 2; have hfz30_3 := blk_frozen BK438.out 3; have hcz31_0 := zk0 BK439.out; have hcz31_1 := zk1 BK439.out; have hcz31_2 := zk2 BK439.out; have hcz31_3 := zk3 BK439.out; have hfz31_0 := blk_frozen BK439.out 0; have hfz31_1 := blk_frozen BK439.out 1; have hfz31_2 := blk_frozen BK439.out 2; have hfz31_3 := blk_frozen BK439.out 3))
  go_ret
  exact ⟨zw, bw2 HB.out GE438.out GE439.out⟩

end Go.Proofs.Ytgmnphckgicadaa.PFnExactLogAdd

