/- Functions that the law reaches, with their contracts. -/
import Derived.Test.YtgmnphckgicadaaQFnExactLogAddx19
import Derived.Test.YtgmnphckgicadaaQFnExactLogAddx23
namespace Go.Proofs.Ytgmnphckgicadaa.PFnExactLogAdd
open Go.RowKit Go.Proofs.YtgmnphckgicadaaW.PrintWords Go.Proofs.YtgmnphckgicadaaW.PrintLast Go.Proofs.YtgmnphckgicadaaW.PrintMore
attribute [local go_sem] max2_int min2_int max_two min_two max_three min_three max_four min_four
set_option linter.unusedVariables false
set_option linter.unusedSimpArgs false

def impl_Sync.f (k : Nat) (l0_0 : List Int) (l0_1 : List (S96)) : Option (List Int × (List (S96))) := (impl_DiskOk.f k l0_0 l0_1).bind fun t392 => (if t392 = true then ((impl_done.f k l0_0 l0_1).bind fun bt393 => (some (bt393.1, bt393.2))) else ((impl_copyDisk.f k l0_0 l0_1).bind fun bt399 => (some (bt399.1, bt399.2))))
set_option maxHeartbeats 8000000 in
set_option maxRecDepth 100000 in
theorem impl_Sync.calls (k : Nat) (A0_0 : Option Addr) (c0_0 : Nat) (l0_0 : List Int) (A0_1 : Option Addr) (c0_1 : Nat) (l0_1 : List (S96)) (r1 : List Int) (r2 : List (S96)) (w : World) (hr0_0 : Kd.C (Kd.int .u8) w A0_0 l0_0.length l0_0) (hc0_0 : l0_0.length ≤ c0_0) (hr0_1 : Kd.C k96 w A0_1 l0_1.length l0_1) (hc0_1 : l0_1.length ≤ c0_1) (h : impl_Sync.f k l0_0 l0_1 = some (r1, r2)) :
  Calls Try.prog 51 #[.agg #[.slice A0_0 l0_0.length c0_0, .slice A0_1 l0_1.length c0_1]] w fun e w' => ∃ v0_ v1_ : Value, e = .returned (.agg #[v0_, v1_]) ∧ Kd.R (Kd.int .u8) 5 w' w.heap.size (fun _ => True) v0_ r1 ∧ Kd.S k96 96 w' w.heap.size (fun k_ => some k_ ≠ (v0_ : Value).ownBlock) v1_ r2 ∧ Below w.heap.size w w' := by
 have hu31 := Try.underlying31
 have HR0_0 := Ak hr0_0
 have HC0_0 := Ak hc0_0
 clear hr0_0 hc0_0
 have HR0_1 := Ak hr0_1
 have HC0_1 := Ak hc0_1
 clear hr0_1 hc0_1
 have HB := Ak (Below.refl w.heap.size w)
 have H : ((impl_DiskOk.f k l0_0 l0_1).bind fun t392 => (if t392 = true then ((impl_done.f k l0_0 l0_1).bind fun bt393 => (some (bt393.1, bt393.2))) else ((impl_copyDisk.f k l0_0 l0_1).bind fun bt399 => (some (bt399.1, bt399.2))))) = some (r1, r2) := h
 clear h
 replace H := Option.bind_eq_some_iff.mp H
 obtain ⟨t392, A20, H⟩ := H
 have A2 := Ak A20
 clear A20
 by_cases c3 : t392 = true
 ·subst c3
  have H1 : ((impl_done.f k l0_0 l0_1).bind fun bt393 => (some (bt393.1, bt393.2))) = some (r1, r2) := by rw [if_pos rfl] at H; exact H
  clear H
  have H := H1
  clear H1
  replace H := Option.bind_eq_some_iff.mp H
  obtain ⟨⟨t393, t396⟩, A40, H⟩ := H
  (try dsimp only at H)
  have A4 := Ak A40
  clear A40
  simp only [Option.some.injEq, Prod.mk.injEq] at H
  obtain ⟨rfl, rfl⟩ := H
  go_enter Try.func51, Try.ntmps51
  go_wp2_with (first | ((with_reducible refine gate_dst (N := 1) rfl ?_); refine box_event ?hg (N := 1) ?hd (cs := #[.slice A0_0 l0_0.length c0_0, .slice A0_1 l0_1.length c0_1]) (t := 31) ?hr ?_; (case hd => rfl); (case hg => rfl); (case hr => first | (go_simp; done) | (go_simp; rfl)); intro gb390 hg w5 hbox hb; have BK390 := Ak (hbox); have GW390 := Ak (zb hg (bw HB.out)); have GE390 := Ak (zb hg (bw HB.out)); replace HB := Ak (below_step (bw HB.out) hb); clear hb hbox hg) | ((with_reducible refine gate_dst (N := 2) rfl ?_); refine box_event ?hg (N := 2) ?hd (cs := #[.slice none 0 0, .slice none 0 0]) (t := 31) ?hr ?_; (case hd => rfl); (case hg => rfl); (case hr => first | (go_simp; done) | (go_simp; rfl)); intro gb391 hg w6 hbox hb; have BK391 := Ak (hbox); have GW391 := Ak (zb hg (bw1 HB.out GE390.out)); have GE391 := Ak (zb hg (bw1 HB.out GE390.out)); replace HB := Ak (below_step (bw1 HB.out GE390.out) hb); have NB390_391 := Ak (zl hg (bq BK390.out)); have NB391_390 := Ak (zm hg (bq BK390.out)); replace BK390 := Ak (blk_below (bq BK390.out) hb); clear hb hbox hg; have hnb7 := NB390_391.out; have hnc7 := NB391_390.out; have hcz8_0 := zk0 BK390.out; have hcz8_1 := zk1 BK390.out; have hfz8_0 := blk_frozen BK390.out 0; have hfz8_1 := blk_frozen BK390.out 1) | ((with_reducible refine gate_callee (f := 67) rfl ?_); refine goesL_ (some 4) rfl rfl Try.func67 (by kernel_rfl) rfl #[.agg #[.slice A0_0 l0_0.length c0_0, .slice A0_1 l0_1.length c0_1]] rfl gm ?_; (with_reducible refine (impl_DiskOk.calls k _ _ l0_0 _ _ l0_1 true _ ?side1 ?side2 ?side3 ?side4 A2.out).mono ?_); (case side1 => exact zq (Kd.C_below HR0_0.out HB.out)); (case side2 => exact HC0_0.out); (case side3 => exact zq (Kd.C_below HR0_1.out HB.out)); (case side4 => exact HC0_1.out); rintro e w9 ⟨rfl, hb⟩; refine ⟨_, rfl, ?_⟩; replace BK390 := Ak (blk_below (bq BK390.out) hb); replace BK391 := Ak (blk_below (bq BK391.out) hb); replace HB := Ak (below_step (bw2 HB.out GE390.out GE391.out) hb); have hcz10_0 := zk0 BK390.out; have hcz10_1 := zk1 BK390.out; have hfz10_0 := blk_frozen BK390.out 0; have hfz10_1 := blk_frozen BK390.out 1) | ((with_reducible refine gate_callee (f := 68) rfl ?_); refine goesL_ (some 9) rfl rfl Try.func68 (by kernel_rfl) rfl #[.agg #[.slice A0_0 l0_0.length c0_0, .slice A0_1 l0_1.length c0_1], .func (.func 102) #[] #[]] rfl gm ?_; (with_reducible refine (impl_done.calls k _ _ l0_0 _ _ l0_1 t393 t396 _ ?side1 ?side2 ?side3 ?side4 A4.out).mono ?_); (case side1 => exact zq (Kd.C_below HR0_0.out HB.out)); (case side2 => exact HC0_0.out); (case side3 => exact zq (Kd.C_below HR0_1.out HB.out)); (case side4 => exact HC0_1.out); rintro e w11 ⟨v394, v397, rfl, ho0, ho1, hb⟩; refine ⟨_, rfl, ?_⟩; have HO395 := Ak (Kd.R_lower ho0 (below_size (bw2 HB.out GE390.out GE391.out))); have HO398 := Ak (Kd.S_lower ho1 (below_size (bw2 HB.out GE390.out GE391.out))); replace BK390 := Ak (blk_below (bq BK390.out) hb); replace BK391 := Ak (blk_below (bq BK391.out) hb); replace HB := Ak (below_step (bw2 HB.out GE390.out GE391.out) hb); obtain ⟨Ao12, co12, eo12⟩ := Kd.R_slice HO395.out; subst eo12; have hcz13_0 := zk0 BK391.out; have hcz13_1 := zk1 BK391.out; have hfz13_0 := blk_frozen BK391.out 0; have hfz13_1 := blk_frozen BK391.out 1; obtain ⟨Ao14, co14, eo14⟩ := Kd.S_slice HO398.out; subst eo14))
  refine bodyPost_ret (results_cell_row rfl _ _ gb391 31 #[.slice Ao12 t393.length co12, .slice Ao14 t396.length co14] (0, 0) _ rfl (by refine bq ?_; refine blk_put (cs := #[.slice Ao12 t393.length co12, .slice none 0 0]) ?_ 1 _ rfl; refine bq ?_; refine blk_put (cs := #[.slice none 0 0, .slice none 0 0]) ?_ 0 _ rfl; exact bq BK391.out) Try.underlying31 rfl (by kernel_rfl)) rfl ?_
  exact ⟨_, _, zw, by refine rq ?_; exact Kd.R_mono (Kd.R_far (p := ⟨gb391, 1, none⟩) (Kd.R_far (p := ⟨gb391, 0, none⟩) (Kd.R_types HO395.out BK391.out (by decide)) (fun _ hk => hk.2) (.slice Ao12 t393.length co12)) (fun _ hk => hk.2) (.slice Ao14 t396.length co14)) (fun _ hk => trivial), by refine sq ?_; exact Kd.S_mono (Kd.S_far (p := ⟨gb391, 1, none⟩) (Kd.S_far (p := ⟨gb391, 0, none⟩) (Kd.S_types HO398.out BK391.out (by decide)) (fun _ hk => hk.2) (.slice Ao12 t393.length co12)) (fun _ hk => hk.2) (.slice Ao14 t396.length co14)) (fun _ hk => hk.1), bw2 HB.out GE390.out GE391.out⟩
 ·replace c3 := Bool.eq_false_iff.mpr c3
  subst c3
  have H1 : ((impl_copyDisk.f k l0_0 l0_1).bind fun bt399 => (some (bt399.1, bt399.2))) = some (r1, r2) := by rw [if_neg (show ¬ (false = true) by decide)] at H; exact H
  clear H
  have H := H1
  clear H1
  replace H := Option.bind_eq_some_iff.mp H
  obtain ⟨⟨t399, t402⟩, A150, H⟩ := H
  (try dsimp only at H)
  have A15 := Ak A150
  clear A150
  simp only [Option.some.injEq, Prod.mk.injEq] at H
  obtain ⟨rfl, rfl⟩ := H
  go_enter Try.func51, Try.ntmps51
  go_wp2_with (first | ((with_reducible refine gate_dst (N := 1) rfl ?_); refine box_event ?hg (N := 1) ?hd (cs := #[.slice A0_0 l0_0.length c0_0, .slice A0_1 l0_1.length c0_1]) (t := 31) ?hr ?_; (case hd => rfl); (case hg => rfl); (case hr => first | (go_simp; done) | (go_simp; rfl)); intro gb390 hg w16 hbox hb; have BK390 := Ak (hbox); have GW390 := Ak (zb hg (bw HB.out)); have GE390 := Ak (zb hg (bw HB.out)); replace HB := Ak (below_step (bw HB.out) hb); clear hb hbox hg) | ((with_reducible refine gate_dst (N := 2) rfl ?_); refine box_event ?hg (N := 2) ?hd (cs := #[.slice none 0 0, .slice none 0 0]) (t := 31) ?hr ?_; (case hd => rfl); (case hg => rfl); (case hr => first | (go_simp; done) | (go_simp; rfl)); intro gb391 hg w17 hbox hb; have BK391 := Ak (hbox); have GW391 := Ak (zb hg (bw1 HB.out GE390.out)); have GE391 := Ak (zb hg (bw1 HB.out GE390.out)); replace HB := Ak (below_step (bw1 HB.out GE390.out) hb); have NB390_391 := Ak (zl hg (bq BK390.out)); have NB391_390 := Ak (zm hg (bq BK390.out)); replace BK390 := Ak (blk_below (bq BK390.out) hb); clear hb hbox hg; have hnb18 := NB390_391.out; have hnc18 := NB391_390.out; have hcz19_0 := zk0 BK390.out; have hcz19_1 := zk1 BK390.out; have hfz19_0 := blk_frozen BK390.out 0; have hfz19_1 := blk_frozen BK390.out 1) | ((with_reducible refine gate_callee (f := 67) rfl ?_); refine goesL_ (some 4) rfl rfl Try.func67 (by kernel_rfl) rfl #[.agg #[.slice A0_0 l0_0.length c0_0, .slice A0_1 l0_1.length c0_1]] rfl gm ?_; (with_reducible refine (impl_DiskOk.calls k _ _ l0_0 _ _ l0_1 false _ ?side1 ?side2 ?side3 ?side4 A2.out).mono ?_); (case side1 => exact zq (Kd.C_below HR0_0.out HB.out)); (case side2 => exact HC0_0.out); (case side3 => exact zq (Kd.C_below HR0_1.out HB.out)); (case side4 => exact HC0_1.out); rintro e w20 ⟨rfl, hb⟩; refine ⟨_, rfl, ?_⟩; replace BK390 := Ak (blk_below (bq BK390.out) hb); replace BK391 := Ak (blk_below (bq BK391.out) hb); replace HB := Ak (below_step (bw2 HB.out GE390.out GE391.out) hb); have hcz21_0 := zk0 BK390.out; have hcz21_1 := zk1 BK390.out; have hfz21_0 := blk_frozen BK390.out 0; have hfz21_1 := blk_frozen BK390.out 1) | ((with_reducible refine gate_callee (f := 49) rfl ?_); refine goesL_ (some 7) rfl rfl Try.func49 (by kernel_rfl) rfl #[.agg #[.slice A0_0 l0_0.length c0_0, .slice A0_1 l0_1.length c0_1]] rfl gm ?_; (with_reducible refine (impl_copyDisk.calls k _ _ l0_0 _ _ l0_1 t399 t402 _ ?side1 ?side2 ?side3 ?side4 A15.out).mono ?_); (case side1 => exact zq (Kd.C_below HR0_0.out HB.out)); (case side2 => exact HC0_0.out); (case side3 => exact zq (Kd.C_below HR0_1.out HB.out)); (case side4 => exact HC0_1.out); rintro e w22 ⟨v400, v403, rfl, ho0, ho1, hb⟩; refine ⟨_, rfl, ?_⟩; have HO401 := Ak (Kd.R_lower ho0 (below_size (bw2 HB.out GE390.out GE391.out))); have HO404 := Ak (Kd.S_lower ho1 (below_size (bw2 HB.out GE390.out GE391.out))); replace BK390 := Ak (blk_below (bq BK390.out) hb); replace BK391 := Ak (blk_below (bq BK391.out) hb); replace HB := Ak (below_step (bw2 HB.out GE390.out GE391.out) hb); obtain ⟨Ao23, co23, eo23⟩ := Kd.R_slice HO401.out; subst eo23; have hcz24_0 := zk0 BK391.out; have hcz24_1 := zk1 BK391.out; have hfz24_0 := blk_frozen BK391.out 0; have hfz24_1 := blk_frozen BK391.out 1; obtain ⟨Ao25, co25, eo25⟩ := Kd.S_slice HO404.out; subst eo25))
  refine bodyPost_ret (results_cell_row rfl _ _ gb391 31 #[.slice Ao23 t399.length co23, .slice Ao25 t402.length co25] (0, 0) _ rfl (by refine bq ?_; refine blk_put (cs := #[.slice Ao23 t399.length co23, .slice none 0 0]) ?_ 1 _ rfl; refine bq ?_; refine blk_put (cs := #[.slice none 0 0, .slice none 0 0]) ?_ 0 _ rfl; exact bq BK391.out) Try.underlying31 rfl (by kernel_rfl)) rfl ?_
  exact ⟨_, _, zw, by refine rq ?_; exact Kd.R_mono (Kd.R_far (p := ⟨gb391, 1, none⟩) (Kd.R_far (p := ⟨gb391, 0, none⟩) (Kd.R_types HO401.out BK391.out (by decide)) (fun _ hk => hk.2) (.slice Ao23 t399.length co23)) (fun _ hk => hk.2) (.slice Ao25 t402.length co25)) (fun _ hk => trivial), by refine sq ?_; exact Kd.S_mono (Kd.S_far (p := ⟨gb391, 1, none⟩) (Kd.S_far (p := ⟨gb391, 0, none⟩) (Kd.S_types HO404.out BK391.out (by decide)) (fun _ hk => hk.2) (.slice Ao23 t399.length co23)) (fun _ hk => hk.2) (.slice Ao25 t402.length co25)) (fun _ hk => hk.1), bw2 HB.out GE390.out GE391.out⟩

end Go.Proofs.Ytgmnphckgicadaa.PFnExactLogAdd

