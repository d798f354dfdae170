/- Functions that the law reaches, with their contracts. -/
import Derived.Test.YtgmnphckgicadaaQFnExactLogAddx9
namespace Go.Proofs.Ytgmnphckgicadaa.PFnExactLogAdd
open Go.RowKit Go.Proofs.YtgmnphckgicadaaW.PrintWords Go.Proofs.YtgmnphckgicadaaW.PrintLast Go.Proofs.YtgmnphckgicadaaW.PrintMore
attribute [local go_sem] max2_int min2_int max_two min_two max_three min_three max_four min_four
set_option linter.unusedVariables false
set_option linter.unusedSimpArgs false

def spec_l12Region.f (k : Nat) (l0_0 : List Int) (l0_1 : List (S96)) (a1 : Int) (a2 : Int) : Option (Bool) := (spec_DiskOk.f k l0_0 l0_1).bind fun t216 => (if t216 = true then ((spec_l1In.f a1 0 a2).bind fun t217 => (if t217 = true then ((spec_l11Many.f l0_0 l0_1).bind fun t218 => (some (decide (a2 < t218)))) else (some false))) else (some false))
set_option maxHeartbeats 8000000 in
set_option maxRecDepth 100000 in
theorem spec_l12Region.calls (k : Nat) (A0_0 : Option Addr) (c0_0 : Nat) (l0_0 : List Int) (A0_1 : Option Addr) (c0_1 : Nat) (l0_1 : List (S96)) (a1 : Int) (a2 : Int) (r : Bool) (w : World) (hr0_0 : Kd.C (Kd.int .u8) w A0_0 l0_0.length l0_0) (hc0_0 : l0_0.length ≤ c0_0) (hr0_1 : Kd.C k96 w A0_1 l0_1.length l0_1) (hc0_1 : l0_1.length ≤ c0_1) (h : spec_l12Region.f k l0_0 l0_1 a1 a2 = some r) :
  Calls Try.prog 56 #[.agg #[.slice A0_0 l0_0.length c0_0, .slice A0_1 l0_1.length c0_1], .int .i64 a1, .int .i64 a2] w fun e w' => e = .returned (.bool r) ∧ Below w.heap.size w w' := by
 have hu31 := Try.underlying31
 have HR0_0 := Ak hr0_0
 have HC0_0 := Ak hc0_0
 clear hr0_0 hc0_0
 have HR0_1 := Ak hr0_1
 have HC0_1 := Ak hc0_1
 clear hr0_1 hc0_1
 have HB := Ak (Below.refl w.heap.size w)
 have H : ((spec_DiskOk.f k l0_0 l0_1).bind fun t216 => (if t216 = true then ((spec_l1In.f a1 0 a2).bind fun t217 => (if t217 = true then ((spec_l11Many.f l0_0 l0_1).bind fun t218 => (some (decide (a2 < t218)))) else (some false))) else (some false))) = some r := h
 clear h
 replace H := Option.bind_eq_some_iff.mp H
 obtain ⟨t216, A40, H⟩ := H
 have A4 := Ak A40
 clear A40
 by_cases c5 : t216 = true
 ·subst c5
  have H1 : ((spec_l1In.f a1 0 a2).bind fun t217 => (if t217 = true then ((spec_l11Many.f l0_0 l0_1).bind fun t218 => (some (decide (a2 < t218)))) else (some false))) = some r := by rw [if_pos rfl] at H; exact H
  clear H
  have H := H1
  clear H1
  replace H := Option.bind_eq_some_iff.mp H
  obtain ⟨t217, A60, H⟩ := H
  have A6 := Ak A60
  clear A60
  by_cases c7 : t217 = true
  ·subst c7
   have H1 : ((spec_l11Many.f l0_0 l0_1).bind fun t218 => (some (decide (a2 < t218)))) = some r := by rw [if_pos rfl] at H; exact H
   clear H
   have H := H1
   clear H1
   replace H := Option.bind_eq_some_iff.mp H
   obtain ⟨t218, A80, H⟩ := H
   have A8 := Ak A80
   clear A80
   obtain rfl := Option.some.inj H
   go_enter Try.func56, Try.ntmps56
   go_wp2_with (first | ((with_reducible refine gate_dst (N := 3) rfl ?_); refine box_event ?hg (N := 3) ?hd (cs := #[.slice A0_0 l0_0.length c0_0, .slice A0_1 l0_1.length c0_1]) (t := 31) ?hr ?_; (case hd => rfl); (case hg => rfl); (case hr => first | (go_simp; done) | (go_simp; rfl)); intro gb215 hg w9 hbox hb; have BK215 := Ak (hbox); have GW215 := Ak (zb hg (bw HB.out)); have GE215 := Ak (zb hg (bw HB.out)); replace HB := Ak (below_step (bw HB.out) hb); clear hb hbox hg; have hcz10_0 := zk0 BK215.out; have hcz10_1 := zk1 BK215.out; have hfz10_0 := blk_frozen BK215.out 0; have hfz10_1 := blk_frozen BK215.out 1) | ((with_reducible refine gate_callee (f := 98) rfl ?_); refine goesL_ (some 8) rfl rfl Try.func98 (by kernel_rfl) rfl #[.agg #[.slice A0_0 l0_0.length c0_0, .slice A0_1 l0_1.length c0_1]] rfl gm ?_; (with_reducible refine (spec_DiskOk.calls k _ _ l0_0 _ _ l0_1 true _ ?side1 ?side2 ?side3 ?side4 A4.out).mono ?_); (case side1 => exact zq (Kd.C_below HR0_0.out HB.out)); (case side2 => exact HC0_0.out); (case side3 => exact zq (Kd.C_below HR0_1.out HB.out)); (case side4 => exact HC0_1.out); rintro e w11 ⟨rfl, hb⟩; refine ⟨_, rfl, ?_⟩; replace BK215 := Ak (blk_below (bq BK215.out) hb); replace HB := Ak (below_step (bw1 HB.out GE215.out) hb)) | (go_at_call 97; (with_reducible refine (spec_l1In.calls a1 0 a2 true _ A6.out).mono ?_); rintro e w' ⟨rfl, ⟨nd, rfl⟩⟩; have hcz12_0 := zk0 BK215.out; have hcz12_1 := zk1 BK215.out; have hfz12_0 := blk_frozen BK215.out 0; have hfz12_1 := blk_frozen BK215.out 1) | (go_at_call 104; (with_reducible refine (spec_l11Many.calls _ _ l0_0 _ _ l0_1 t218 _ ?side1 ?side2 ?side3 ?side4 A8.out).mono ?_); (case side1 => exact zq (Kd.C_below HR0_0.out (bw1 HB.out GE215.out))); (case side2 => exact HC0_0.out); (case side3 => exact zq (Kd.C_below HR0_1.out (bw1 HB.out GE215.out))); (case side4 => exact HC0_1.out); rintro e w13 ⟨rfl, hb⟩; replace BK215 := Ak (blk_below (bq BK215.out) hb); replace HB := Ak (below_step (bw1 HB.out GE215.out) hb)))
   go_ret
   exact ⟨zw, bw1 HB.out GE215.out⟩
  ·replace c7 := Bool.eq_false_iff.mpr c7
   subst c7
   have H1 : (some false) = some r := by rw [if_neg (show ¬ (false = true) by decide)] at H; exact H
   clear H
   have H := H1
   clear H1
   obtain rfl := Option.some.inj H
   go_enter Try.func56, Try.ntmps56
   go_wp2_with (first | ((with_reducible refine gate_dst (N := 3) rfl ?_); refine box_event ?hg (N := 3) ?hd (cs := #[.slice A0_0 l0_0.length c0_0, .slice A0_1 l0_1.length c0_1]) (t := 31) ?hr ?_; (case hd => rfl); (case hg => rfl); (case hr => first | (go_simp; done) | (go_simp; rfl)); intro gb215 hg w14 hbox hb; have BK215 := Ak (hbox); have GW215 := Ak (zb hg (bw HB.out)); have GE215 := Ak (zb hg (bw HB.out)); replace HB := Ak (below_step (bw HB.out) hb); clear hb hbox hg; have hcz15_0 := zk0 BK215.out; have hcz15_1 := zk1 BK215.out; have hfz15_0 := blk_frozen BK215.out 0; have hfz15_1 := blk_frozen BK215.out 1) | ((with_reducible refine gate_callee (f := 98) rfl ?_); refine goesL_ (some 8) rfl rfl Try.func98 (by kernel_rfl) rfl #[.agg #[.slice A0_0 l0_0.length c0_0, .slice A0_1 l0_1.length c0_1]] rfl gm ?_; (with_reducible refine (spec_DiskOk.calls k _ _ l0_0 _ _ l0_1 true _ ?side1 ?side2 ?side3 ?side4 A4.out).mono ?_); (case side1 => exact zq (Kd.C_below HR0_0.out HB.out)); (case side2 => exact HC0_0.out); (case side3 => exact zq (Kd.C_below HR0_1.out HB.out)); (case side4 => exact HC0_1.out); rintro e w16 ⟨rfl, hb⟩; refine ⟨_, rfl, ?_⟩; replace BK215 := Ak (blk_below (bq BK215.out) hb); replace HB := Ak (below_step (bw1 HB.out GE215.out) hb)) | (go_at_call 97; (with_reducible refine (spec_l1In.calls a1 0 a2 false _ A6.out).mono ?_); rintro e w' ⟨rfl, ⟨nd, rfl⟩⟩))
   go_ret
   exact ⟨zw, bw1 HB.out GE215.out⟩
 ·replace c5 := Bool.eq_false_iff.mpr c5
  subst c5
  have H1 : (some false) = some r := by rw [if_neg (show ¬ (false = true) by decide)] at H; exact H
  clear H
  have H := H1
  clear H1
  obtain rfl := Option.some.inj H
  go_enter Try.func56, Try.ntmps56
  go_wp2_with (first | ((with_reducible refine gate_dst (N := 3) rfl ?_); refine box_event ?hg (N := 3) ?hd (cs := #[.slice A0_0 l0_0.length c0_0, .slice A0_1 l0_1.length c0_1]) (t := 31) ?hr ?_; (case hd => rfl); (case hg => rfl); (case hr => first | (go_simp; done) | (go_simp; rfl)); intro gb215 hg w17 hbox hb; have BK215 := Ak (hbox); have GW215 := Ak (zb hg (bw HB.out)); have GE215 := Ak (zb hg (bw HB.out)); replace HB := Ak (below_step (bw HB.out) hb); clear hb hbox hg; have hcz18_0 := zk0 BK215.out; have hcz18_1 := zk1 BK215.out; have hfz18_0 := blk_frozen BK215.out 0; have hfz18_1 := blk_frozen BK215.out 1) | ((with_reducible refine gate_callee (f := 98) rfl ?_); refine goesL_ (some 8) rfl rfl Try.func98 (by kernel_rfl) rfl #[.agg #[.slice A0_0 l0_0.length c0_0, .slice A0_1 l0_1.length c0_1]] rfl gm ?_; (with_reducible refine (spec_DiskOk.calls k _ _ l0_0 _ _ l0_1 false _ ?side1 ?side2 ?side3 ?side4 A4.out).mono ?_); (case side1 => exact zq (Kd.C_below HR0_0.out HB.out)); (case side2 => exact HC0_0.out); (case side3 => exact zq (Kd.C_below HR0_1.out HB.out)); (case side4 => exact HC0_1.out); rintro e w19 ⟨rfl, hb⟩; refine ⟨_, rfl, ?_⟩; replace BK215 := Ak (blk_below (bq BK215.out) hb); replace HB := Ak (below_step (bw1 HB.out GE215.out) hb)))
  go_ret
  exact ⟨zw, bw1 HB.out GE215.out⟩

def spec_l12Log.f (k : Nat) (l0_0 : List Int) (l0_1 : List (S96)) (a1_0 : Int) (a1_1 : Int) (a1_2 : Int) (a1_3 : Int) : Option (Bool) := (spec_l12Region.f k l0_0 l0_1 a1_0 a1_1).bind fun t221 => (if t221 = true then ((spec_l1In.f a1_2 0 (wrap64 ((wrap64 (a1_1 - a1_0)) + 1))).bind fun t222 => (if t222 = true then ((spec_l1In.f a1_3 1 1000000).bind fun t223 => (some t223)) else (some false))) else (some false))
set_option maxHeartbeats 8000000 in
set_option maxRecDepth 100000 in
theorem spec_l12Log.calls (k : Nat) (A0_0 : Option Addr) (c0_0 : Nat) (l0_0 : List Int) (A0_1 : Option Addr) (c0_1 : Nat) (l0_1 : List (S96)) (a1_0 : Int) (a1_1 : Int) (a1_2 : Int) (a1_3 : Int) (r : Bool) (w : World) (hr0_0 : Kd.C (Kd.int .u8) w A0_0 l0_0.length l0_0) (hc0_0 : l0_0.length ≤ c0_0) (hr0_1 : Kd.C k96 w A0_1 l0_1.length l0_1) (hc0_1 : l0_1.length ≤ c0_1) (h : spec_l12Log.f k l0_0 l0_1 a1_0 a1_1 a1_2 a1_3 = some r) :
  Calls Try.prog 46 #[.agg #[.slice A0_0 l0_0.length c0_0, .slice A0_1 l0_1.length c0_1], .agg #[.int .i64 a1_0, .int .i64 a1_1, .int .i64 a1_2, .int .i64 a1_3]] w fun e w' => e = .returned (.bool r) ∧ Below w.heap.size w w' := by
 have hu31 := Try.underlying31
 have hu32 := Try.underlying32
 have HR0_0 := Ak hr0_0
 have HC0_0 := Ak hc0_0
 clear hr0_0 hc0_0
 have HR0_1 := Ak hr0_1
 have HC0_1 := Ak hc0_1
 clear hr0_1 hc0_1
 have HB := Ak (Below.refl w.heap.size w)
 have H : ((spec_l12Region.f k l0_0 l0_1 a1_0 a1_1).bind fun t221 => (if t221 = true then ((spec_l1In.f a1_2 0 (wrap64 ((wrap64 (a1_1 - a1_0)) + 1))).bind fun t222 => (if t222 = true then ((spec_l1In.f a1_3 1 1000000).bind fun t223 => (some t223)) else (some false))) else (some false))) = some r := h
 clear h
 replace H := Option.bind_eq_some_iff.mp H
 obtain ⟨t221, A30, H⟩ := H
 have A3 := Ak A30
 clear A30
 by_cases c4 : t221 = true
 ·subst c4
  have H1 : ((spec_l1In.f a1_2 0 (wrap64 ((wrap64 (a1_1 - a1_0)) + 1))).bind fun t222 => (if t222 = true then ((spec_l1In.f a1_3 1 1000000).bind fun t223 => (some t223)) else (some false))) = some r := by rw [if_pos rfl] at H; exact H
  clear H
  have H := H1
  clear H1
  replace H := Option.bind_eq_some_iff.mp H
  obtain ⟨t222, A50, H⟩ := H
  have A5 := Ak A50
  clear A50
  by_cases c6 : t222 = true
  ·subst c6
   have H1 : ((spec_l1In.f a1_3 1 1000000).bind fun t223 => (some t223)) = some r := by rw [if_pos rfl] at H; exact H
   clear H
   have H := H1
   clear H1
   replace H := Option.bind_eq_some_iff.mp H
   obtain ⟨t223, A70, H⟩ := H
   have A7 := Ak A70
   clear A70
   obtain rfl := Option.some.inj H
   go_enter Try.func46, Try.ntmps46
   go_wp2_with (first | ((with_reducible refine gate_dst (N := 2) rfl ?_); refine box_event ?hg (N := 2) ?hd (cs := #[.slice A0_0 l0_0.length c0_0, .slice A0_1 l0_1.length c0_1]) (t := 31) ?hr ?_; (case hd => rfl); (case hg => rfl); (case hr => first | (go_simp; done) | (go_simp; rfl)); intro gb219 hg w8 hbox hb; have BK219 := Ak (hbox); have GW219 := Ak (zb hg (bw HB.out)); have GE219 := Ak (zb hg (bw HB.out)); replace HB := Ak (below_step (bw HB.out) hb); clear hb hbox hg) | ((with_reducible refine gate_dst (N := 3) rfl ?_); refine box_event ?hg (N := 3) ?hd (cs := #[.int .i64 a1_0, .int .i64 a1_1, .int .i64 a1_2, .int .i64 a1_3]) (t := 32) ?hr ?_; (case hd => rfl); (case hg => rfl); (case hr => first | (go_simp; done) | (go_simp; rfl)); intro gb220 hg w9 hbox hb; have BK220 := Ak (hbox); have GW220 := Ak (zb hg (bw1 HB.out GE219.out)); have GE220 := Ak (zb hg (bw1 HB.out GE219.out)); replace HB := Ak (below_step (bw1 HB.out GE219.out) hb); have NB219_220 := Ak (zl hg (bq BK219.out)); have NB220_219 := Ak (zm hg (bq BK219.out)); replace BK219 := Ak (blk_below (bq BK219.out) hb); clear hb hbox hg; have hnb10 := NB219_220.out; have hnc10 := NB220_219.out; have hcz11_0 := zk0 BK219.out; have hcz11_1 := zk1 BK219.out; have hfz11_0 := blk_frozen BK219.out 0; have hfz11_1 := blk_frozen BK219.out 1; have hcz12_0 := zk0 BK220.out; have hcz12_1 := zk1 BK220.out; have hcz12_2 := zk2 BK220.out; have hcz12_3 := zk3 BK220.out; have hfz12_0 := blk_frozen BK220.out 0; have hfz12_1 := blk_frozen BK220.out 1; have hfz12_2 := blk_frozen BK220.out 2; have hfz12_3 := blk_frozen BK220.out 3) | ((with_reducible refine gate_callee (f := 56) rfl ?_); refine goesL_ (some 10) rfl rfl Try.func56 (by kernel_rfl) rfl #[.agg #[.slice A0_0 l0_0.length c0_0, .slice A0_1 l0_1.length c0_1], .int .i64 a1_0, .int .i64 a1_1] rfl gm ?_; (with_reducible refine (spec_l12Region.calls k _ _ l0_0 _ _ l0_1 a1_0 a1_1 true _ ?side1 ?side2 ?side3 ?side4 A3.out).mono ?_); (case side1 => exact zq (Kd.C_below HR0_0.out HB.out)); (case side2 => exact HC0_0.out); (case side3 => exact zq (Kd.C_below HR0_1.out HB.out)); (case side4 => exact HC0_1.out); rintro e w13 ⟨rfl, hb⟩; refine ⟨_, rfl, ?_⟩; replace BK219 := Ak (blk_below (bq BK219.out) hb); replace BK220 := Ak (blk_below (bq BK220.out) hb); replace HB := Ak (below_step (bw2 HB.out GE219.out GE220.out) hb); have hcz14_0 := zk0 BK220.out; have hcz14_1 := zk1 BK220.out; have hcz14_2 := zk2 BK220.out; have hcz14_3 := zk3 BK220.out; have hfz14_0 := blk_frozen BK220.out 0; have hfz14_1 := blk_frozen BK220.out 1; have hfz14_2 := blk_frozen BK220.out 2; have hfz14_3 := blk_frozen BK220.out 3) | (go_at_call 97; (with_reducible refine (spec_l1In.calls a1_2 0 (wrap64 ((wrap64 (a1_1 - a1_0)) + 1)) true _ A5.out).mono ?_); rintro e w' ⟨rfl, ⟨nd, rfl⟩⟩) | (go_at_call 97; (with_reducible refine (spec_l1In.calls a1_3 1 1000000 t223 _ A7.out).mono ?_); rintro e w' ⟨rfl, ⟨nd, rfl⟩⟩))
   go_ret
   exact ⟨zw, bw2 HB.out GE219.out GE220.out⟩
  ·replace c6 := Bool.eq_false_iff.mpr c6
   subst c6
   have H1 : (some false) = some r := by rw [if_neg (show ¬ (false = true) by decide)] at H; exact H
   clear H
   have H := H1
   clear H1
   obtain rfl := Option.some.inj H
   go_enter Try.func46, Try.ntmps46
   go_wp2_with (first | ((with_reducible refine gate_dst (N := 2) rfl ?_); refine box_event ?hg (N := 2) ?hd (cs := #[.slice A0_0 l0_0.length c0_0, .slice A0_1 l0_1.length c0_1]) (t := 31) ?hr ?_; (case hd => rfl); (case hg => rfl); (case hr => first | (go_simp; done) | (go_simp; rfl)); intro gb219 hg w15 hbox hb; have BK219 := Ak (hbox); have GW219 := Ak (zb hg (bw HB.out)); have GE219 := Ak (zb hg (bw HB.out)); replace HB := Ak (below_step (bw HB.out) hb); clear hb hbox hg) | ((with_reducible refine gate_dst (N := 3) rfl ?_); refine box_event ?hg (N := 3) ?hd (cs := #[.int .i64 a1_0, .int .i64 a1_1, .int .i64 a1_2, .int .i64 a1_3]) (t := 32) ?hr ?_; (case hd => rfl); (case hg => rfl); (case hr => first | (go_simp; done) | (go_simp; rfl)); intro gb220 hg w16 hbox hb; have BK220 := Ak (hbox); have GW220 := Ak (zb hg (bw1 HB.out GE219.out)); have GE220 := Ak (zb hg (bw1 HB.out GE219.out)); replace HB := Ak (below_step (bw1 HB.out GE219.out) hb); have NB219_220 := Ak (zl hg (bq BK219.out)); have NB220_219 := Ak (zm hg (bq BK219.out)); replace BK219 := Ak (blk_below (bq BK219.out) hb); clear hb hbox hg; have hnb17 := NB219_220.out; have hnc17 := NB220_219.out; have hcz18_0 := zk0 BK219.out; have hcz18_1 := zk1 BK219.out; have hfz18_0 := blk_frozen BK219.out 0; have hfz18_1 := blk_frozen BK219.out 1; have hcz19_0 := zk0 BK220.out; have hcz19_1 := zk1 BK220.out; have hcz19_2 := zk2 BK220.out; have hcz19_3 := zk3 BK220.out; have hfz19_0 := blk_frozen BK220.out 0; have hfz19_1 := blk_frozen BK220.out 1; have hfz19_2 := blk_frozen BK220.out 2; have hfz19_3 := blk_frozen BK220.out 3) | ((with_reducible refine gate_callee (f := 56) rfl ?_); refine goesL_ (some 10) rfl rfl Try.func56 (by kernel_rfl) rfl #[.agg #[.slice A0_0 l0_0.length c0_0, .slice A0_1 l0_1.length c0_1], .int .i64 a1_0, .int .i64 a1_1] rfl gm ?_; (with_reducible refine (spec_l12Region.calls k _ _ l0_0 _ _ l0_1 a1_0 a1_1 true _ ?side1 ?side2 ?side3 ?side4 A3.out).mono ?_); (case side1 => exact zq (Kd.C_below HR0_0.out HB.out)); (case side2 => exact HC0_0.out); (case side3 => exact zq (Kd.C_below HR0_1.out HB.out)); (case side4 => exact HC0_1.out); rintro e w20 ⟨rfl, hb⟩; refine ⟨_, rfl, ?_⟩; replace BK219 := Ak (blk_below (bq BK219.out) hb); replace BK220 := Ak (blk_below (bq BK220.out) hb); replace HB := Ak (below_step (bw2 HB.out GE219.out GE220.out) hb); have hcz21_0 := zk0 BK220.out; have hcz21_1 := zk1 BK220.out; have hcz21_2 := zk2 BK220.out; have hcz21_3 := zk3 BK220.out; have hfz21_0 := blk_frozen BK220.out 0; have hfz21_1 := blk_frozen BK220.out 1; have hfz21_2 := blk_frozen BK220.out 2; have hfz21_3 := blk_frozen BK220.out 3) | (go_at_call 97; (with_reducible refine (spec_l1In.calls a1_2 0 (wrap64 ((wrap64 (a1_1 - a1_0)) + 1)) false _ A5.out).mono ?_); rintro e w' ⟨rfl, ⟨nd, rfl⟩⟩))
   go_ret
   exact ⟨zw, bw2 HB.out GE219.out GE220.out⟩
 ·replace c4 := Bool.eq_false_iff.mpr c4
  subst c4
  have H1 : (some false) = some r := by rw [if_neg (show ¬ (false = true) by decide)] at H; exact H
  clear H
  have H := H1
  clear H1
  obtain rfl := Option.some.inj H
  go_enter Try.func46, Try.ntmps46
  go_wp2_with (first | ((with_reducible refine gate_dst (N := 2) rfl ?_); refine box_event ?hg (N := 2) ?hd (cs := #[.slice A0_0 l0_0.length c0_0, .slice A0_1 l0_1.length c0_1]) (t := 31) ?hr ?_; (case hd => rfl); (case hg => rfl); (case hr => first | (go_simp; done) | (go_simp; rfl)); intro gb219 hg w22 hbox hb; have BK219 := Ak (hbox); have GW219 := Ak (zb hg (bw HB.out)); have GE219 := Ak (zb hg (bw HB.out)); replace HB := Ak (below_step (bw HB.out) hb); clear hb hbox hg) | ((with_reducible refine gate_dst (N := 3) rfl ?_); refine box_event ?hg (N := 3) ?hd (cs := #[.int .i64 a1_0, .int .i64 a1_1, .int .i64 a1_2, .int .i64 a1_3]) (t := 32) ?hr ?_; (case hd => rfl); (case hg => rfl); (case hr => first | (go_simp; done) | (go_simp; rfl)); intro gb220 hg w23 hbox hb; have BK220 := Ak (hbox); have GW220 := Ak (zb hg (bw1 HB.out GE219.out)); have GE220 := Ak (zb hg (bw1 HB.out GE219.out)); replace HB := Ak (below_step (bw1 HB.out GE219.out) hb); have NB219_220 := Ak (zl hg (bq BK219.out)); have NB220_219 := Ak (zm hg (bq BK219.out)); replace BK219 := Ak (blk_below (bq BK219.out) hb); clear hb hbox hg; have hnb24 := NB219_220.out; have hnc24 := NB220_219.out; have hcz25_0 := zk0 BK219.out; have hcz25_1 := zk1 BK219.out; have hfz25_0 := blk_frozen BK219.out 0; have hfz25_1 := blk_frozen BK219.out 1; have hcz26_0 := zk0 BK220.out; have hcz26_1 := zk1 BK220.out; have hcz26_2 := zk2 BK220.out; have hcz26_3 := zk3 BK220.out; have hfz26_0 := blk_frozen BK220.out 0; have hfz26_1 := blk_frozen BK220.out 1; have hfz26_2 := blk_frozen BK220.out 2; have hfz26_3 := blk_frozen BK220.out 3) | ((with_reducible refine gate_callee (f := 56) rfl ?_); refine goesL_ (some 10) rfl rfl Try.func56 (by kernel_rfl) rfl #[.agg #[.slice A0_0 l0_0.length c0_0, .slice A0_1 l0_1.length c0_1], .int .i64 a1_0, .int .i64 a1_1] rfl gm ?_; (with_reducible refine (spec_l12Region.calls k _ _ l0_0 _ _ l0_1 a1_0 a1_1 false _ ?side1 ?side2 ?side3 ?side4 A3.out).mono ?_); (case side1 => exact zq (Kd.C_below HR0_0.out HB.out)); (case side2 => exact HC0_0.out); (case side3 => exact zq (Kd.C_below HR0_1.out HB.out)); (case side4 => exact HC0_1.out); rintro e w27 ⟨rfl, hb⟩; refine ⟨_, rfl, ?_⟩; replace BK219 := Ak (blk_below (bq BK219.out) hb); replace BK220 := Ak (blk_below (bq BK220.out) hb); replace HB := Ak (below_step (bw2 HB.out GE219.out GE220.out) hb)))
  go_ret
  exact ⟨zw, bw2 HB.out GE219.out GE220.out⟩

end Go.Proofs.Ytgmnphckgicadaa.PFnExactLogAdd

