/- The functions that the law FnHulls reaches, each with what it computes and its contract. -/
import Derived.Test.YtgmnphckgicadaaQFnHullsx0
import Derived.Test.YtgmnphckgicadaaQFnHullsx9
namespace Go.Proofs.Ytgmnphckgicadaa.PFnHulls
open Go.RowKit Go.Proofs.YtgmnphckgicadaaW.PrintWords Go.Proofs.YtgmnphckgicadaaW.PrintLast Go.Proofs.YtgmnphckgicadaaW.PrintMore
attribute [local go_sem] max2_int min2_int max_two min_two max_three min_three max_four min_four
set_option linter.unusedVariables false
set_option linter.unusedSimpArgs false

def impl_Pt_80.f (l0 : List (S67)) : Option ((List (S67))) := if 0 ≤ (l0.length : Int) then (if (l0.length : Int) ≤ (l0.length : Int) then (some (l0.take ((l0.length : Int) : Int).toNat)) else (none)) else (none)
set_option maxHeartbeats 8000000 in
set_option maxRecDepth 100000 in
theorem impl_Pt_80.calls (P0_ : Nat → Prop) (A0 : Option Addr) (c0 : Nat) (l0 : List (S67)) (r : List (S67)) (w0 w : World) (hB : Below w0.heap.size w0 w) (ho0 : Kd.R k67 67 w w0.heap.size P0_ (.slice A0 l0.length c0) l0) (h : impl_Pt_80.f l0 = some r) :
  Calls Try.prog 80 #[.slice A0 l0.length c0] w fun e w' => e = .returned (.slice A0 l0.length l0.length) ∧ r = l0 ∧ Drawn0 w w' := by
 have hr : r = l0 := by
  unfold impl_Pt_80.f at h
  rw [if_pos (by omega), if_pos (by omega)] at h
  have e := Option.some.inj h
  rw [← e]; simp
 have hc0 : l0.length ≤ c0 := (Kd.R_reads' ho0).2.1
 have hf := Kd.R_form ho0
 clear h ho0 hB
 obtain ⟨i013, hi013, _, hsz13, _⟩ := info_parts info67
 go_enter Try.func80, Try.ntmps80
 have hcut : ∀ W, (Instr.slice 58 (.slice A0 l0.length c0) none (some (.int .i64 (l0.length : Int))) (some (.int .i64 (l0.length : Int)))).run Try.prog W = .ok (.slice A0 l0.length l0.length) W := by
  intro W
  have hel : Try.prog.elem 58 = 67 := by simp [Program.elem, Try.underlying58]
  have hu : Try.prog.underlying 58 = some (.slice (Try.prog.elem 58)) := by rw [hel]; exact Try.underlying58
  have ha : (A0.map fun x => x.add 0) = A0 := by cases A0 <;> simp [Addr.add]
  rw [run_slice_hm W 58 A0 l0.length c0 hu .i64 .i64 (l0.length : Int) (l0.length : Int) (by omega) (by omega) (by omega), hel]
  simp [sizeOf, typeInfo, hi013, sliced, Result.andThen, ha]
 go_wp2
 go_ret
 exact ⟨by first | rfl | (simp; done) | (simp [*]; done), hr, by repeat (first | exact Drawn0.refl _ | apply Drawn0.step)⟩
def impl_cross2.f (a0_0 : Int) (a0_1 : Int) (a1_0 : Int) (a1_1 : Int) (a2_0 : Int) (a2_1 : Int) : Option (Int) := some (wrap64 ((wrap64 ((wrap64 (a1_0 - a0_0)) * (wrap64 (a2_1 - a0_1)))) - (wrap64 ((wrap64 (a1_1 - a0_1)) * (wrap64 (a2_0 - a0_0))))))
set_option maxHeartbeats 8000000 in
set_option maxRecDepth 100000 in
theorem impl_cross2.calls (a0_0 : Int) (a0_1 : Int) (a1_0 : Int) (a1_1 : Int) (a2_0 : Int) (a2_1 : Int) (r : Int) (w : World) (h : impl_cross2.f a0_0 a0_1 a1_0 a1_1 a2_0 a2_1 = some r) :
  Calls Try.prog 126 #[.agg #[.int .i64 a0_0, .int .i64 a0_1], .agg #[.int .i64 a1_0, .int .i64 a1_1], .agg #[.int .i64 a2_0, .int .i64 a2_1]] w fun e w' => e = .returned (.int .i64 r) ∧ Below w.heap.size w w' := by
 have hu67 := Try.underlying67
 have HB := Ak (Below.refl w.heap.size w)
 have H : (some (wrap64 ((wrap64 ((wrap64 (a1_0 - a0_0)) * (wrap64 (a2_1 - a0_1)))) - (wrap64 ((wrap64 (a1_1 - a0_1)) * (wrap64 (a2_0 - a0_0))))))) = some r := h
 clear h
 obtain rfl := Option.some.inj H
 go_enter Try.func126, Try.ntmps126
 go_wp2_with (first | ((with_reducible refine gate_dst (N := 3) rfl ?_); refine box_event ?hg (N := 3) ?hd (cs := #[.int .i64 a0_0, .int .i64 a0_1]) (t := 67) ?hr ?_; (case hd => rfl); (case hg => rfl); (case hr => first | (go_simp; done) | (go_simp; rfl)); intro gb223 hg w4 hbox hb; have BK223 := Ak (hbox); have GW223 := Ak ((zb hg (bw HB.out))); have GE223 := Ak ((zb hg (bw HB.out))); replace HB := Ak (below_step (bw HB.out) hb); clear hb hbox hg) | ((with_reducible refine gate_dst (N := 4) rfl ?_); refine box_event ?hg (N := 4) ?hd (cs := #[.int .i64 a1_0, .int .i64 a1_1]) (t := 67) ?hr ?_; (case hd => rfl); (case hg => rfl); (case hr => first | (go_simp; done) | (go_simp; rfl)); intro gb224 hg w5 hbox hb; have BK224 := Ak (hbox); have GW224 := Ak ((zb hg (bw1 HB.out GE223.out))); have GE224 := Ak ((zb hg (bw1 HB.out GE223.out))); replace HB := Ak (below_step (bw1 HB.out GE223.out) hb); have NB223_224 := Ak ((zl hg (bq BK223.out))); have NB224_223 := Ak ((zm hg (bq BK223.out))); replace BK223 := Ak (blk_below (bq BK223.out) hb); clear hb hbox hg) | ((with_reducible refine gate_dst (N := 5) rfl ?_); refine box_event ?hg (N := 5) ?hd (cs := #[.int .i64 a2_0, .int .i64 a2_1]) (t := 67) ?hr ?_; (case hd => rfl); (case hg => rfl); (case hr => first | (go_simp; done) | (go_simp; rfl)); intro gb225 hg w6 hbox hb; have BK225 := Ak (hbox); have GW225 := Ak ((zb hg (bw2 HB.out GE223.out GE224.out))); have GE225 := Ak ((zb hg (bw2 HB.out GE223.out GE224.out))); replace HB := Ak (below_step (bw2 HB.out GE223.out GE224.out) hb); have NB223_225 := Ak ((zl hg (bq BK223.out))); have NB225_223 := Ak ((zm hg (bq BK223.out))); replace BK223 := Ak (blk_below (bq BK223.out) hb); have NB224_225 := Ak ((zl hg (bq BK224.out))); have NB225_224 := Ak ((zm hg (bq BK224.out))); replace BK224 := Ak (blk_below (bq BK224.out) hb); clear hb hbox hg; have hnb7 := NB224_223.out; have hnc7 := NB223_224.out; have hnb8 := NB224_225.out; have hnc8 := NB225_224.out; have hcz9_0 := zk0 BK224.out; have hcz9_1 := zk1 BK224.out; have hfz9_0 := blk_frozen BK224.out 0; have hfz9_1 := blk_frozen BK224.out 1; have hnb10 := NB223_225.out; have hnc10 := NB225_223.out; have hcz11_0 := zk0 BK223.out; have hcz11_1 := zk1 BK223.out; have hfz11_0 := blk_frozen BK223.out 0; have hfz11_1 := blk_frozen BK223.out 1; have hcz12_0 := zk0 BK225.out; have hcz12_1 := zk1 BK225.out; have hfz12_0 := blk_frozen BK225.out 0; have hfz12_1 := blk_frozen BK225.out 1))
 go_ret
 exact ⟨zw, bw3 HB.out GE223.out GE224.out GE225.out⟩

def impl_turn.f (a0_0 : Int) (a0_1 : Int) (a1_0 : Int) (a1_1 : Int) (a2_0 : Int) (a2_1 : Int) : Option (Int) := (impl_cross2.f a0_0 a0_1 a1_0 a1_1 a2_0 a2_1).bind fun t229 => ((cmp_Compare_int.f t229 0).bind fun t230 => (some t230))
set_option maxHeartbeats 8000000 in
set_option maxRecDepth 100000 in
theorem impl_turn.calls (a0_0 : Int) (a0_1 : Int) (a1_0 : Int) (a1_1 : Int) (a2_0 : Int) (a2_1 : Int) (r : Int) (w : World) (h : impl_turn.f a0_0 a0_1 a1_0 a1_1 a2_0 a2_1 = some r) :
  Calls Try.prog 89 #[.agg #[.int .i64 a0_0, .int .i64 a0_1], .agg #[.int .i64 a1_0, .int .i64 a1_1], .agg #[.int .i64 a2_0, .int .i64 a2_1]] w fun e w' => e = .returned (.int .i64 r) ∧ Below w.heap.size w w' := by
 have hu67 := Try.underlying67
 have HB := Ak (Below.refl w.heap.size w)
 have H : ((impl_cross2.f a0_0 a0_1 a1_0 a1_1 a2_0 a2_1).bind fun t229 => ((cmp_Compare_int.f t229 0).bind fun t230 => (some t230))) = some r := h
 clear h
 replace H := Option.bind_eq_some_iff.mp H
 obtain ⟨t229, A40, H⟩ := H
 have A4 := Ak A40
 clear A40
 replace H := Option.bind_eq_some_iff.mp H
 obtain ⟨t230, A50, H⟩ := H
 have A5 := Ak A50
 clear A50
 obtain rfl := Option.some.inj H
 go_enter Try.func89, Try.ntmps89
 go_wp2_with (first | ((with_reducible refine gate_dst (N := 3) rfl ?_); refine box_event ?hg (N := 3) ?hd (cs := #[.int .i64 a0_0, .int .i64 a0_1]) (t := 67) ?hr ?_; (case hd => rfl); (case hg => rfl); (case hr => first | (go_simp; done) | (go_simp; rfl)); intro gb226 hg w6 hbox hb; have BK226 := Ak (hbox); have GW226 := Ak ((zb hg (bw HB.out))); have GE226 := Ak ((zb hg (bw HB.out))); replace HB := Ak (below_step (bw HB.out) hb); clear hb hbox hg) | ((with_reducible refine gate_dst (N := 4) rfl ?_); refine box_event ?hg (N := 4) ?hd (cs := #[.int .i64 a1_0, .int .i64 a1_1]) (t := 67) ?hr ?_; (case hd => rfl); (case hg => rfl); (case hr => first | (go_simp; done) | (go_simp; rfl)); intro gb227 hg w7 hbox hb; have BK227 := Ak (hbox); have GW227 := Ak ((zb hg (bw1 HB.out GE226.out))); have GE227 := Ak ((zb hg (bw1 HB.out GE226.out))); replace HB := Ak (below_step (bw1 HB.out GE226.out) hb); have NB226_227 := Ak ((zl hg (bq BK226.out))); have NB227_226 := Ak ((zm hg (bq BK226.out))); replace BK226 := Ak (blk_below (bq BK226.out) hb); clear hb hbox hg) | ((with_reducible refine gate_dst (N := 5) rfl ?_); refine box_event ?hg (N := 5) ?hd (cs := #[.int .i64 a2_0, .int .i64 a2_1]) (t := 67) ?hr ?_; (case hd => rfl); (case hg => rfl); (case hr => first | (go_simp; done) | (go_simp; rfl)); intro gb228 hg w8 hbox hb; have BK228 := Ak (hbox); have GW228 := Ak ((zb hg (bw2 HB.out GE226.out GE227.out))); have GE228 := Ak ((zb hg (bw2 HB.out GE226.out GE227.out))); replace HB := Ak (below_step (bw2 HB.out GE226.out GE227.out) hb); have NB226_228 := Ak ((zl hg (bq BK226.out))); have NB228_226 := Ak ((zm hg (bq BK226.out))); replace BK226 := Ak (blk_below (bq BK226.out) hb); have NB227_228 := Ak ((zl hg (bq BK227.out))); have NB228_227 := Ak ((zm hg (bq BK227.out))); replace BK227 := Ak (blk_below (bq BK227.out) hb); clear hb hbox hg; have hnb9 := NB226_227.out; have hnc9 := NB227_226.out; have hnb10 := NB226_228.out; have hnc10 := NB228_226.out; have hcz11_0 := zk0 BK226.out; have hcz11_1 := zk1 BK226.out; have hfz11_0 := blk_frozen BK226.out 0; have hfz11_1 := blk_frozen BK226.out 1; have hnb12 := NB227_228.out; have hnc12 := NB228_227.out; have hcz13_0 := zk0 BK227.out; have hcz13_1 := zk1 BK227.out; have hfz13_0 := blk_frozen BK227.out 0; have hfz13_1 := blk_frozen BK227.out 1; have hcz14_0 := zk0 BK228.out; have hcz14_1 := zk1 BK228.out; have hfz14_0 := blk_frozen BK228.out 0; have hfz14_1 := blk_frozen BK228.out 1) | ((with_reducible refine gate_callee (f := 126) rfl ?_); refine goesL_ (some 10) rfl rfl Try.func126 (by kernel_rfl) rfl #[.agg #[.int .i64 a0_0, .int .i64 a0_1], .agg #[.int .i64 a1_0, .int .i64 a1_1], .agg #[.int .i64 a2_0, .int .i64 a2_1]] rfl gm ?_; (with_reducible refine (impl_cross2.calls a0_0 a0_1 a1_0 a1_1 a2_0 a2_1 t229 _ A4.out).mono ?_); rintro e w15 ⟨rfl, hb⟩; refine ⟨_, rfl, ?_⟩; replace BK226 := Ak (blk_below (bq BK226.out) hb); replace BK227 := Ak (blk_below (bq BK227.out) hb); replace BK228 := Ak (blk_below (bq BK228.out) hb); replace HB := Ak (below_step (bw3 HB.out GE226.out GE227.out GE228.out) hb)) | ((with_reducible refine gate_callee (f := 122) rfl ?_); refine goesL_ (some 11) rfl rfl Try.func122 (by kernel_rfl) rfl #[.int .i64 t229, .int .i64 0] rfl gm ?_; (with_reducible refine (cmp_Compare_int.calls t229 0 t230 _ A5.out).mono ?_); rintro e w' ⟨rfl, ⟨nd, rfl⟩⟩; refine ⟨_, rfl, ?_⟩))
 go_ret
 exact ⟨zw, bw3 HB.out GE226.out GE227.out GE228.out⟩

end Go.Proofs.Ytgmnphckgicadaa.PFnHulls
