/- Functions that the law reaches, with their contracts. -/
import Derived.Test.YtgmnphckgicadaaQFnExactLogAddx21
namespace Go.Proofs.Ytgmnphckgicadaa.PFnExactLogAdd
open Go.RowKit Go.Proofs.YtgmnphckgicadaaW.PrintWords Go.Proofs.YtgmnphckgicadaaW.PrintLast Go.Proofs.YtgmnphckgicadaaW.PrintMore
attribute [local go_sem] max2_int min2_int max_two min_two max_three min_three max_four min_four
set_option linter.unusedVariables false
set_option linter.unusedSimpArgs false

def impl_isLogOf.f (k : Nat) (l0_0 : List Int) (l0_1 : List (S96)) (a1_0 : Int) (a1_1 : Int) (a1_2 : Int) (a1_3 : Int) : Option (Bool) := (impl_canOpen.f k l0_0 l0_1 a1_0 a1_1).bind fun t377 => (if t377 = true then ((impl_inRange.f a1_2 0 (wrap64 ((wrap64 (a1_1 - a1_0)) + 1))).bind fun t378 => (if t378 = true then ((impl_inRange.f a1_3 1 1000000).bind fun t379 => (some t379)) else (some false))) else (some false))
set_option maxHeartbeats 8000000 in
set_option maxRecDepth 100000 in
theorem impl_isLogOf.calls (k : Nat) (A0_0 : Option Addr) (c0_0 : Nat) (l0_0 : List Int) (A0_1 : Option Addr) (c0_1 : Nat) (l0_1 : List (S96)) (a1_0 : Int) (a1_1 : Int) (a1_2 : Int) (a1_3 : Int) (r : Bool) (w : World) (hr0_0 : Kd.C (Kd.int .u8) w A0_0 l0_0.length l0_0) (hc0_0 : l0_0.length ≤ c0_0) (hr0_1 : Kd.C k96 w A0_1 l0_1.length l0_1) (hc0_1 : l0_1.length ≤ c0_1) (h : impl_isLogOf.f k l0_0 l0_1 a1_0 a1_1 a1_2 a1_3 = some r) :
  Calls Try.prog 50 #[.agg #[.slice A0_0 l0_0.length c0_0, .slice A0_1 l0_1.length c0_1], .agg #[.int .i64 a1_0, .int .i64 a1_1, .int .i64 a1_2, .int .i64 a1_3]] w fun e w' => e = .returned (.bool r) ∧ Below w.heap.size w w' := by
 have hu31 := Try.underlying31
 have hu32 := Try.underlying32
 have HR0_0 := Ak hr0_0
 have HC0_0 := Ak hc0_0
 clear hr0_0 hc0_0
 have HR0_1 := Ak hr0_1
 have HC0_1 := Ak hc0_1
 clear hr0_1 hc0_1
 have HB := Ak (Below.refl w.heap.size w)
 have H : ((impl_canOpen.f k l0_0 l0_1 a1_0 a1_1).bind fun t377 => (if t377 = true then ((impl_inRange.f a1_2 0 (wrap64 ((wrap64 (a1_1 - a1_0)) + 1))).bind fun t378 => (if t378 = true then ((impl_inRange.f a1_3 1 1000000).bind fun t379 => (some t379)) else (some false))) else (some false))) = some r := h
 clear h
 replace H := Option.bind_eq_some_iff.mp H
 obtain ⟨t377, A30, H⟩ := H
 have A3 := Ak A30
 clear A30
 by_cases c4 : t377 = true
 ·subst c4
  have H1 : ((impl_inRange.f a1_2 0 (wrap64 ((wrap64 (a1_1 - a1_0)) + 1))).bind fun t378 => (if t378 = true then ((impl_inRange.f a1_3 1 1000000).bind fun t379 => (some t379)) else (some false))) = some r := by rw [if_pos rfl] at H; exact H
  clear H
  have H := H1
  clear H1
  replace H := Option.bind_eq_some_iff.mp H
  obtain ⟨t378, A50, H⟩ := H
  have A5 := Ak A50
  clear A50
  by_cases c6 : t378 = true
  ·subst c6
   have H1 : ((impl_inRange.f a1_3 1 1000000).bind fun t379 => (some t379)) = some r := by rw [if_pos rfl] at H; exact H
   clear H
   have H := H1
   clear H1
   replace H := Option.bind_eq_some_iff.mp H
   obtain ⟨t379, A70, H⟩ := H
   have A7 := Ak A70
   clear A70
   obtain rfl := Option.some.inj H
   go_enter Try.func50, Try.ntmps50
   go_wp2_with (first | ((with_reducible refine gate_dst (N := 2) rfl ?_); refine box_event ?hg (N := 2) ?hd (cs := #[.slice A0_0 l0_0.length c0_0, .slice A0_1 l0_1.length c0_1]) (t := 31) ?hr ?_; (case hd => rfl); (case hg => rfl); (case hr => first | (go_simp; done) | (go_simp; rfl)); intro gb375 hg w8 hbox hb; have BK375 := Ak (hbox); have GW375 := Ak (zb hg (bw HB.out)); have GE375 := Ak (zb hg (bw HB.out)); replace HB := Ak (below_step (bw HB.out) hb); clear hb hbox hg) | ((with_reducible refine gate_dst (N := 3) rfl ?_); refine box_event ?hg (N := 3) ?hd (cs := #[.int .i64 a1_0, .int .i64 a1_1, .int .i64 a1_2, .int .i64 a1_3]) (t := 32) ?hr ?_; (case hd => rfl); (case hg => rfl); (case hr => first | (go_simp; done) | (go_simp; rfl)); intro gb376 hg w9 hbox hb; have BK376 := Ak (hbox); have GW376 := Ak (zb hg (bw1 HB.out GE375.out)); have GE376 := Ak (zb hg (bw1 HB.out GE375.out)); replace HB := Ak (below_step (bw1 HB.out GE375.out) hb); have NB375_376 := Ak (zl hg (bq BK375.out)); have NB376_375 := Ak (zm hg (bq BK375.out)); replace BK375 := Ak (blk_below (bq BK375.out) hb); clear hb hbox hg; have hnb10 := NB375_376.out; have hnc10 := NB376_375.out; have hcz11_0 := zk0 BK375.out; have hcz11_1 := zk1 BK375.out; have hfz11_0 := blk_frozen BK375.out 0; have hfz11_1 := blk_frozen BK375.out 1; have hcz12_0 := zk0 BK376.out; have hcz12_1 := zk1 BK376.out; have hcz12_2 := zk2 BK376.out; have hcz12_3 := zk3 BK376.out; have hfz12_0 := blk_frozen BK376.out 0; have hfz12_1 := blk_frozen BK376.out 1; have hfz12_2 := blk_frozen BK376.out 2; have hfz12_3 := blk_frozen BK376.out 3) | ((with_reducible refine gate_callee (f := 59) rfl ?_); refine goesL_ (some 10) rfl rfl Try.func59 (by kernel_rfl) rfl #[.agg #[.slice A0_0 l0_0.length c0_0, .slice A0_1 l0_1.length c0_1], .int .i64 a1_0, .int .i64 a1_1] rfl gm ?_; (with_reducible refine (impl_canOpen.calls k _ _ l0_0 _ _ l0_1 a1_0 a1_1 true _ ?side1 ?side2 ?side3 ?side4 A3.out).mono ?_); (case side1 => exact zq (Kd.C_below HR0_0.out HB.out)); (case side2 => exact HC0_0.out); (case side3 => exact zq (Kd.C_below HR0_1.out HB.out)); (case side4 => exact HC0_1.out); rintro e w13 ⟨rfl, hb⟩; refine ⟨_, rfl, ?_⟩; replace BK375 := Ak (blk_below (bq BK375.out) hb); replace BK376 := Ak (blk_below (bq BK376.out) hb); replace HB := Ak (below_step (bw2 HB.out GE375.out GE376.out) hb); have hcz14_0 := zk0 BK376.out; have hcz14_1 := zk1 BK376.out; have hcz14_2 := zk2 BK376.out; have hcz14_3 := zk3 BK376.out; have hfz14_0 := blk_frozen BK376.out 0; have hfz14_1 := blk_frozen BK376.out 1; have hfz14_2 := blk_frozen BK376.out 2; have hfz14_3 := blk_frozen BK376.out 3) | (go_at_call 101; (with_reducible refine (impl_inRange.calls a1_2 0 (wrap64 ((wrap64 (a1_1 - a1_0)) + 1)) true _ A5.out).mono ?_); rintro e w' ⟨rfl, ⟨nd, rfl⟩⟩) | (go_at_call 101; (with_reducible refine (impl_inRange.calls a1_3 1 1000000 t379 _ A7.out).mono ?_); rintro e w' ⟨rfl, ⟨nd, rfl⟩⟩))
   go_ret
   exact ⟨zw, bw2 HB.out GE375.out GE376.out⟩
  ·replace c6 := Bool.eq_false_iff.mpr c6
   subst c6
   have H1 : (some false) = some r := by rw [if_neg (show ¬ (false = true) by decide)] at H; exact H
   clear H
   have H := H1
   clear H1
   obtain rfl := Option.some.inj H
   go_enter Try.func50, Try.ntmps50
   go_wp2_with (first | ((with_reducible refine gate_dst (N := 2) rfl ?_); refine box_event ?hg (N := 2) ?hd (cs := #[.slice A0_0 l0_0.length c0_0, .slice A0_1 l0_1.length c0_1]) (t := 31) ?hr ?_; (case hd => rfl); (case hg => rfl); (case hr => first | (go_simp; done) | (go_simp; rfl)); intro gb375 hg w15 hbox hb; have BK375 := Ak (hbox); have GW375 := Ak (zb hg (bw HB.out)); have GE375 := Ak (zb hg (bw HB.out)); replace HB := Ak (below_step (bw HB.out) hb); clear hb hbox hg) | ((with_reducible refine gate_dst (N := 3) rfl ?_); refine box_event ?hg (N := 3) ?hd (cs := #[.int .i64 a1_0, .int .i64 a1_1, .int .i64 a1_2, .int .i64 a1_3]) (t := 32) ?hr ?_; (case hd => rfl); (case hg => rfl); (case hr => first | (go_simp; done) | (go_simp; rfl)); intro gb376 hg w16 hbox hb; have BK376 := Ak (hbox); have GW376 := Ak (zb hg (bw1 HB.out GE375.out)); have GE376 := Ak (zb hg (bw1 HB.out GE375.out)); replace HB := Ak (below_step (bw1 HB.out GE375.out) hb); have NB375_376 := Ak (zl hg (bq BK375.out)); have NB376_375 := Ak (zm hg (bq BK375.out)); replace BK375 := Ak (blk_below (bq BK375.out) hb); clear hb hbox hg; have hnb17 := NB375_376.out; have hnc17 := NB376_375.out; have hcz18_0 := zk0 BK375.out; have hcz18_1 := zk1 BK375.out; have hfz18_0 := blk_frozen BK375.out 0; have hfz18_1 := blk_frozen BK375.out 1; have hcz19_0 := zk0 BK376.out; have hcz19_1 := zk1 BK376.out; have hcz19_2 := zk2 BK376.out; have hcz19_3 := zk3 BK376.out; have hfz19_0 := blk_frozen BK376.out 0; have hfz19_1 := blk_frozen BK376.out 1; have hfz19_2 := blk_frozen BK376.out 2; have hfz19_3 := blk_frozen BK376.out 3) | ((with_reducible refine gate_callee (f := 59) rfl ?_); refine goesL_ (some 10) rfl rfl Try.func59 (by kernel_rfl) rfl #[.agg #[.slice A0_0 l0_0.length c0_0, .slice A0_1 l0_1.length c0_1], .int .i64 a1_0, .int .i64 a1_1] rfl gm ?_; (with_reducible refine (impl_canOpen.calls k _ _ l0_0 _ _ l0_1 a1_0 a1_1 true _ ?side1 ?side2 ?side3 ?side4 A3.out).mono ?_); (case side1 => exact zq (Kd.C_below HR0_0.out HB.out)); (case side2 => exact HC0_0.out); (case side3 => exact zq (Kd.C_below HR0_1.out HB.out)); (case side4 => exact HC0_1.out); rintro e w20 ⟨rfl, hb⟩; refine ⟨_, rfl, ?_⟩; replace BK375 := Ak (blk_below (bq BK375.out) hb); replace BK376 := Ak (blk_below (bq BK376.out) hb); replace HB := Ak (below_step (bw2 HB.out GE375.out GE376.out) hb); have hcz21_0 := zk0 BK376.out; have hcz21_1 := zk1 BK376.out; have hcz21_2 := zk2 BK376.out; have hcz21_3 := zk3 BK376.out; have hfz21_0 := blk_frozen BK376.out 0; have hfz21_1 := blk_frozen BK376.out 1; have hfz21_2 := blk_frozen BK376.out 2; have hfz21_3 := blk_frozen BK376.out 3) | (go_at_call 101; (with_reducible refine (impl_inRange.calls a1_2 0 (wrap64 ((wrap64 (a1_1 - a1_0)) + 1)) false _ A5.out).mono ?_); rintro e w' ⟨rfl, ⟨nd, rfl⟩⟩))
   go_ret
   exact ⟨zw, bw2 HB.out GE375.out GE376.out⟩
 ·replace c4 := Bool.eq_false_iff.mpr c4
  subst c4
  have H1 : (some false) = some r := by rw [if_neg (show ¬ (false = true) by decide)] at H; exact H
  clear H
  have H := H1
  clear H1
  obtain rfl := Option.some.inj H
  go_enter Try.func50, Try.ntmps50
  go_wp2_with (first | ((with_reducible refine gate_dst (N := 2) rfl ?_); refine box_event ?hg (N := 2) ?hd (cs := #[.slice A0_0 l0_0.length c0_0, .slice A0_1 l0_1.length c0_1]) (t := 31) ?hr ?_; (case hd => rfl); (case hg => rfl); (case hr => first | (go_simp; done) | (go_simp; rfl)); intro gb375 hg w22 hbox hb; have BK375 := Ak (hbox); have GW375 := Ak (zb hg (bw HB.out)); have GE375 := Ak (zb hg (bw HB.out)); replace HB := Ak (below_step (bw HB.out) hb); clear hb hbox hg) | ((with_reducible refine gate_dst (N := 3) rfl ?_); refine box_event ?hg (N := 3) ?hd (cs := #[.int .i64 a1_0, .int .i64 a1_1, .int .i64 a1_2, .int .i64 a1_3]) (t := 32) ?hr ?_; (case hd => rfl); (case hg => rfl); (case hr => first | (go_simp; done) | (go_simp; rfl)); intro gb376 hg w23 hbox hb; have BK376 := Ak (hbox); have GW376 := Ak (zb hg (bw1 HB.out GE375.out)); have GE376 := Ak (zb hg (bw1 HB.out GE375.out)); replace HB := Ak (below_step (bw1 HB.out GE375.out) hb); have NB375_376 := Ak (zl hg (bq BK375.out)); have NB376_375 := Ak (zm hg (bq BK375.out)); replace BK375 := Ak (blk_below (bq BK375.out) hb); clear hb hbox hg; have hnb24 := NB375_376.out; have hnc24 := NB376_375.out; have hcz25_0 := zk0 BK375.out; have hcz25_1 := zk1 BK375.out; have hfz25_0 := blk_frozen BK375.out 0; have hfz25_1 := blk_frozen BK375.out 1; have hcz26_0 := zk0 BK376.out; have hcz26_1 := zk1 BK376.out; have hcz26_2 := zk2 BK376.out; have hcz26_3 := zk3 BK376.out; have hfz26_0 := blk_frozen BK376.out 0; have hfz26_1 := blk_frozen BK376.out 1; have hfz26_2 := blk_frozen BK376.out 2; have hfz26_3 := blk_frozen BK376.out 3) | ((with_reducible refine gate_callee (f := 59) rfl ?_); refine goesL_ (some 10) rfl rfl Try.func59 (by kernel_rfl) rfl #[.agg #[.slice A0_0 l0_0.length c0_0, .slice A0_1 l0_1.length c0_1], .int .i64 a1_0, .int .i64 a1_1] rfl gm ?_; (with_reducible refine (impl_canOpen.calls k _ _ l0_0 _ _ l0_1 a1_0 a1_1 false _ ?side1 ?side2 ?side3 ?side4 A3.out).mono ?_); (case side1 => exact zq (Kd.C_below HR0_0.out HB.out)); (case side2 => exact HC0_0.out); (case side3 => exact zq (Kd.C_below HR0_1.out HB.out)); (case side4 => exact HC0_1.out); rintro e w27 ⟨rfl, hb⟩; refine ⟨_, rfl, ?_⟩; replace BK375 := Ak (blk_below (bq BK375.out) hb); replace BK376 := Ak (blk_below (bq BK376.out) hb); replace HB := Ak (below_step (bw2 HB.out GE375.out GE376.out) hb)))
  go_ret
  exact ⟨zw, bw2 HB.out GE375.out GE376.out⟩

def impl_SyncOne.f (a0 : Int) : Option (Bool) := some true
set_option maxHeartbeats 8000000 in
set_option maxRecDepth 100000 in
theorem impl_SyncOne.calls (a0 : Int) (r : Bool) (w : World) (h : impl_SyncOne.f a0 = some r) :
  Calls Try.prog 102 #[.int .i64 a0] w fun e w' => e = .returned (.bool r) ∧ Drawn0 w w' := by
 have H : (some true) = some r := h
 clear h
 obtain rfl := Option.some.inj H
 go_enter Try.func102, Try.ntmps102
 go_wp2
 go_ret
 exact ⟨by first | rfl | (simp; done) | (simp [*]; done), by repeat (first | exact Drawn0.refl _ | apply Drawn0.step)⟩

end Go.Proofs.Ytgmnphckgicadaa.PFnExactLogAdd

