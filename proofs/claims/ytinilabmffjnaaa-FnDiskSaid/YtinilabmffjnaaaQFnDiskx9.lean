/- The functions that the law FnDisk reaches, each with what it computes and its contract. -/
import Derived.Test.YtinilabmffjnaaaQFnDiskx0
import Derived.Test.YtinilabmffjnaaaQFnDiskx1
import Derived.Test.YtinilabmffjnaaaQFnDiskx6
import Derived.Test.YtinilabmffjnaaaQFnDiskx8
namespace Go.Proofs.Ytinilabmffjnaaa.PFnDisk
open Go.RowKit Go.Proofs.YtinilabmffjnaaaW.PrintWords Go.Proofs.YtinilabmffjnaaaW.PrintLast Go.Proofs.YtinilabmffjnaaaW.PrintMore
attribute [local go_sem] max2_int min2_int max_two min_two max_three min_three max_four min_four
set_option linter.unusedVariables false
set_option linter.unusedSimpArgs false

def spec_DrawCrash.f (k : Nat) (l0 : List Int) : Option (List Int × (List (S34)) × List Int) := (spec_l1New.f k l0).bind fun bt269 => ((spec_l11Draw.f k bt269.1 bt269.2.1 bt269.2.2).bind fun bt273 => ((spec_l1Below.f bt269.1 bt273.2.2.1 bt273.2.2.2 3).bind fun bt282 => ((spec_l1Bytes.f k bt269.1 bt282.2.1 bt282.2.2 bt282.1).bind fun bt285 => (some (bt273.1, bt273.2.1, bt285.1)))))
set_option maxHeartbeats 8000000 in
set_option maxRecDepth 100000 in
theorem spec_DrawCrash.calls (k : Nat) (A0 : Option Addr) (c0 : Nat) (l0 : List Int) (r1 : List Int) (r2 : List (S34)) (r3 : List Int) (w : World) (hr0 : Kd.C (Kd.int .u8) w A0 l0.length l0) (hc0 : l0.length ≤ c0) (h : spec_DrawCrash.f k l0 = some (r1, r2, r3)) :
  Calls Try.prog 12 #[.slice A0 l0.length c0] w fun e w' => ∃ v0_ v1_ v2_ : Value, e = .returned (.tuple #[.agg #[v0_, v1_], v2_]) ∧ Kd.Q (Kd.int .u8) 5 w' w.heap.size (fun k_ => some k_ ≠ (v2_ : Value).ownBlock) v0_ r1 ∧ Kd.S k34 34 w' w.heap.size (fun k_ => some k_ ≠ (v0_ : Value).ownBlock ∧ some k_ ≠ (v2_ : Value).ownBlock) v1_ r2 ∧ Kd.R (Kd.int .u8) 5 w' w.heap.size (fun k_ => some k_ ≠ (v0_ : Value).ownBlock) v2_ r3 ∧ Below w.heap.size w w' := by
 have hu26 := Try.underlying26
 have HR0 := Ak hr0
 have HC0 := Ak hc0
 clear hr0 hc0
 have HB := Ak (Below.refl w.heap.size w)
 have H : ((spec_l1New.f k l0).bind fun bt269 => ((spec_l11Draw.f k bt269.1 bt269.2.1 bt269.2.2).bind fun bt273 => ((spec_l1Below.f bt269.1 bt273.2.2.1 bt273.2.2.2 3).bind fun bt282 => ((spec_l1Bytes.f k bt269.1 bt282.2.1 bt282.2.2 bt282.1).bind fun bt285 => (some (bt273.1, bt273.2.1, bt285.1)))))) = some (r1, r2, r3) := h
 clear h
 replace H := Option.bind_eq_some_iff.mp H
 obtain ⟨⟨t269, t270, t271⟩, A20, H⟩ := H
 replace H : ((spec_l11Draw.f k t269 t270 t271).bind fun bt273 => ((spec_l1Below.f t269 bt273.2.2.1 bt273.2.2.2 3).bind fun bt282 => ((spec_l1Bytes.f k t269 bt282.2.1 bt282.2.2 bt282.1).bind fun bt285 => (some (bt273.1, bt273.2.1, bt285.1))))) = some (r1, r2, r3) := H
 have A2 := Ak A20
 clear A20
 replace H := Option.bind_eq_some_iff.mp H
 obtain ⟨⟨t273, t276, t279, t280⟩, A30, H⟩ := H
 replace H : ((spec_l1Below.f t269 t279 t280 3).bind fun bt282 => ((spec_l1Bytes.f k t269 bt282.2.1 bt282.2.2 bt282.1).bind fun bt285 => (some (t273, t276, bt285.1)))) = some (r1, r2, r3) := H
 have A3 := Ak A30
 clear A30
 replace H := Option.bind_eq_some_iff.mp H
 obtain ⟨⟨t282, t283, t284⟩, A40, H⟩ := H
 replace H : ((spec_l1Bytes.f k t269 t283 t284 t282).bind fun bt285 => (some (t273, t276, bt285.1))) = some (r1, r2, r3) := H
 have A4 := Ak A40
 clear A40
 replace H := Option.bind_eq_some_iff.mp H
 obtain ⟨⟨t285, t288, t289⟩, A50, H⟩ := H
 replace H : (some (t273, t276, t285)) = some (r1, r2, r3) := H
 have A5 := Ak A50
 clear A50
 simp only [Option.some.injEq, Prod.mk.injEq] at H
 obtain ⟨rfl, rfl, rfl⟩ := H
 go_enter Try.func12, Try.ntmps12
 try go_wp2_with (first | ((with_reducible refine gate_dst (N := 2) rfl ?_); refine box_event ?hg (N := 2) ?hd (cs := #[.slice none 0 0, .slice none 0 0]) (t := 26) ?hr ?_; (case hd => rfl); (case hg => rfl); (case hr => first | (go_simp; done) | (go_simp; rfl)); intro gb268 hg w6 hbox hb; have n0_ := Ak (below_step (bw HB.out) hb); have n1_ := Ak (hbox); have n2_ := Ak ((by rw [hg]; exact (below_size (bw HB.out)) : w.heap.size ≤ gb268)); have n3_ := Ak ((by rw [hg]; exact (below_size (bw HB.out)) : w.heap.size ≤ gb268)); clear HB; have HB := n0_; have BK268 := n1_; have GW268 := n2_; have GE268 := n3_; clear n0_ n1_ n2_ n3_; clear hb hbox hg) | ((with_reducible refine gate_callee (f := 53) rfl ?_); refine goesL_ (some 7) rfl rfl Try.func53 (by kernel_rfl) rfl #[.slice A0 l0.length c0] rfl gm ?_; (with_reducible refine (spec_l1New.calls k _ _ l0 t269 t270 t271 w _ ?side1 ?side2 ?side3 A2.out).mono ?_); (case side1 => repeat (first | (with_reducible first | exact HB.out | apply below_alloc | apply pw_below_drewN | apply below_drew1 | refine below_set ?_ GE268.out) | exact HB.out)); (case side2 => exact HR0.out); (case side3 => exact HC0.out); rintro e w7 ⟨g272, rfl, hi, hb, hb2⟩; refine ⟨_, rfl, ?_⟩; have n0_ := Ak (blk_below (g := gb268) (o := .cells #[.slice none 0 0, .slice none 0 0] 26 (0, 0)) (bq BK268.out) hb2); have n1_ := Ak (hb); have n2_ := Ak (hi); have n3_ := Ak (IsS124.ne_blk hi (blk_below (g := gb268) (o := .cells #[.slice none 0 0, .slice none 0 0] 26 (0, 0)) (bq BK268.out) hb2) (by decide)); have n4_ := Ak (Ne.symm (IsS124.ne_blk hi (blk_below (g := gb268) (o := .cells #[.slice none 0 0, .slice none 0 0] 26 (0, 0)) (bq BK268.out) hb2) (by decide))); clear BK268; clear HB; have BK268 := n0_; have HB := n1_; have HI272 := n2_; have NB272_268 := n3_; have NB268_272 := n4_; clear n0_ n1_ n2_ n3_ n4_) | ((with_reducible refine gate_callee (f := 54) rfl ?_); refine goesL_ (some 9) rfl rfl Try.func54 (by kernel_rfl) rfl #[.pointer (some ⟨g272, 0, none⟩)] rfl gm ?_; (with_reducible refine (spec_l11Draw.calls k g272 t269 t270 t271 t273 t276 t279 t280 w _ ?side1 ?side2 A3.out).mono ?_); (case side1 => repeat (first | (with_reducible first | exact HI272.out | apply IsS124.alloc | apply IsS124.drewN | apply IsS124.drew | apply IsS124.set_1 | apply IsS124.set_2 | refine IsS124.far ?_ NB272_268.out _) | exact HI272.out)); (case side2 => repeat (first | (with_reducible first | exact HB.out | apply below_alloc | apply pw_below_drewN | apply below_drew1 | refine below_set ?_ (IsS124.ge HI272.out) | refine below_set ?_ GE268.out) | exact HB.out)); rintro e w8 ⟨v274, v277, rfl, ho0, ho1, hi, hb, hk⟩; refine ⟨_, rfl, ?_⟩; have n0_ := Ak (KeepBut.blk hk (g' := gb268) (o := .cells #[.slice none 0 0, .slice none 0 0] 26 (0, 0)) (bq BK268.out) NB268_272.out (by simp)); have n1_ := Ak (Kd.Q_lower ho0 (below_size (bw2 HB.out (IsS124.ge HI272.out) GE268.out))); have n2_ := Ak (Kd.S_lower ho1 (below_size (bw2 HB.out (IsS124.ge HI272.out) GE268.out))); have n3_ := Ak (hb); have n4_ := Ak (hi); clear BK268; clear HB; clear HI272; have BK268 := n0_; have HO275 := n1_; have HO278 := n2_; have HB := n3_; have HI272 := n4_; clear n0_ n1_ n2_ n3_ n4_) | ((with_reducible refine gate_dst (N := 5) rfl ?_); refine box_event ?hg (N := 5) ?hd (cs := #[.slice none 0 0, .slice none 0 0]) (t := 26) ?hr ?_; (case hd => rfl); (case hg => rfl); (case hr => first | (go_simp; done) | (go_simp; rfl)); intro gb281 hg w9 hbox hb; have n0_ := Ak (Kd.Q_below (qq HO275.out) hb); have n1_ := Ak (Kd.S_below (sq HO278.out) hb); have n2_ := Ak (blk_below (g := gb268) (o := .cells #[.slice none 0 0, .slice none 0 0] 26 (0, 0)) (bq BK268.out) hb); have n3_ := Ak (IsS124.below (by repeat (first | (with_reducible first | exact HI272.out | apply IsS124.alloc | apply IsS124.drewN | apply IsS124.drew | apply IsS124.set_1 | apply IsS124.set_2 | refine IsS124.far ?_ NB272_268.out _) | exact HI272.out)) hb); have n4_ := Ak (below_step (bw2 HB.out (IsS124.ge HI272.out) GE268.out) hb); have n5_ := Ak (hbox); have n6_ := Ak ((by rw [hg]; exact (below_size (bw2 HB.out (IsS124.ge HI272.out) GE268.out)) : w.heap.size ≤ gb281)); have n7_ := Ak ((by rw [hg]; exact (below_size (bw2 HB.out (IsS124.ge HI272.out) GE268.out)) : w.heap.size ≤ gb281)); have n8_ := Ak ((by rw [hg]; exact Nat.ne_of_lt (blk_lt (g := gb268) (o := .cells #[.slice none 0 0, .slice none 0 0] 26 (0, 0)) (bq BK268.out)) : gb268 ≠ gb281)); have n9_ := Ak ((by rw [hg]; exact Nat.ne_of_gt (blk_lt (g := gb268) (o := .cells #[.slice none 0 0, .slice none 0 0] 26 (0, 0)) (bq BK268.out)) : gb281 ≠ gb268)); have n10_ := Ak ((by rw [hg]; exact Nat.ne_of_lt (IsS124.lt (show IsS124 w _ g272 t269 t279 t280 from by repeat (first | (with_reducible first | exact HI272.out | apply IsS124.alloc | apply IsS124.drewN | apply IsS124.drew | apply IsS124.set_1 | apply IsS124.set_2 | refine IsS124.far ?_ NB272_268.out _) | exact HI272.out))) : g272 ≠ gb281)); have n11_ := Ak ((by rw [hg]; exact Nat.ne_of_gt (IsS124.lt (show IsS124 w _ g272 t269 t279 t280 from by repeat (first | (with_reducible first | exact HI272.out | apply IsS124.alloc | apply IsS124.drewN | apply IsS124.drew | apply IsS124.set_1 | apply IsS124.set_2 | refine IsS124.far ?_ NB272_268.out _) | exact HI272.out))) : gb281 ≠ g272)); clear HO275; clear HO278; clear BK268; clear HI272; clear HB; have HO275 := n0_; have HO278 := n1_; have BK268 := n2_; have HI272 := n3_; have HB := n4_; have BK281 := n5_; have GW281 := n6_; have GE281 := n7_; have NB268_281 := n8_; have NB281_268 := n9_; have NB272_281 := n10_; have NB281_272 := n11_; clear n0_ n1_ n2_ n3_ n4_ n5_ n6_ n7_ n8_ n9_ n10_ n11_; clear hb hbox hg; obtain ⟨Ao10, co10, eo10, _⟩ := Kd.Q_slice HO275.out; subst eo10; have hnb11 := NB281_268.out; have hnc11 := NB268_281.out; have hnb12 := NB281_272.out; have hnc12 := NB272_281.out; have hcz13_0 : w9.cell? ⟨gb281, 0, none⟩ = some (.slice none 0 0) := (blk_cell BK281.out 0).trans rfl; have hcz13_1 : w9.cell? ⟨gb281, 1, none⟩ = some (.slice none 0 0) := (blk_cell BK281.out 1).trans rfl; have hfz13_0 := blk_frozen BK281.out 0; have hfz13_1 := blk_frozen BK281.out 1; obtain ⟨Ao14, co14, eo14⟩ := Kd.S_slice HO278.out; subst eo14))
 have n0_ : Aside0 (Kd.Q (Kd.int .u8) 5 ((w9.setCell ⟨gb281, 0, none⟩ (.slice Ao10 t273.length co10)).setCell ⟨gb281, 1, none⟩ (.slice Ao14 t276.length co14)) w.heap.size (fun _ => True) (.slice Ao10 t273.length co10) t273) := ⟨by (with_reducible repeat (first | apply Kd.Q_alloc | apply Kd.Q_drewN | apply Kd.Q_drew)); exact Kd.Q_mono (Kd.Q_far (p := ⟨gb281, 1, none⟩) (Kd.Q_far (p := ⟨gb281, 0, none⟩) (Kd.Q_types HO275.out BK281.out (by decide)) (fun _ hk => hk.2) (.slice Ao10 t273.length co10)) (fun _ hk => hk.2) (.slice Ao14 t276.length co14)) (fun _ hk => trivial)⟩
 have n1_ : Aside0 (Kd.S k34 34 ((w9.setCell ⟨gb281, 0, none⟩ (.slice Ao10 t273.length co10)).setCell ⟨gb281, 1, none⟩ (.slice Ao14 t276.length co14)) w.heap.size (fun k_ => some k_ ≠ (.slice Ao10 t273.length co10 : Value).ownBlock) (.slice Ao14 t276.length co14) t276) := ⟨by (with_reducible repeat (first | apply Kd.S_alloc | apply Kd.S_drewN | apply Kd.S_drew)); exact Kd.S_mono (Kd.S_far (p := ⟨gb281, 1, none⟩) (Kd.S_far (p := ⟨gb281, 0, none⟩) (Kd.S_types HO278.out BK281.out (by decide)) (fun _ hk => hk.2) (.slice Ao10 t273.length co10)) (fun _ hk => hk.2) (.slice Ao14 t276.length co14)) (fun _ hk => hk.1)⟩
 have n2_ : Aside0 (((w9.setCell ⟨gb281, 0, none⟩ (.slice Ao10 t273.length co10)).setCell ⟨gb281, 1, none⟩ (.slice Ao14 t276.length co14)).heap[gb268]? = some (.cells #[.slice none 0 0, .slice none 0 0] 26 (0, 0))) := ⟨by (with_reducible repeat (first | refine blk_drewN ?_ _ | refine blk_drew ?_ | refine blk_alloc ?_ _)); refine blk_far ?_ NB268_281.out _; (with_reducible repeat (first | refine blk_drewN ?_ _ | refine blk_drew ?_ | refine blk_alloc ?_ _)); refine blk_far ?_ NB268_281.out _; (with_reducible repeat (first | refine blk_drewN ?_ _ | refine blk_drew ?_ | refine blk_alloc ?_ _)); exact BK268.out⟩
 have n3_ : Aside0 (((w9.setCell ⟨gb281, 0, none⟩ (.slice Ao10 t273.length co10)).setCell ⟨gb281, 1, none⟩ (.slice Ao14 t276.length co14)).heap[gb281]? = some (.cells #[.slice Ao10 t273.length co10, .slice Ao14 t276.length co14] 26 (0, 0))) := ⟨by (with_reducible repeat (first | refine blk_drewN ?_ _ | refine blk_drew ?_ | refine blk_alloc ?_ _)); refine blk_put (cs := #[.slice Ao10 t273.length co10, .slice none 0 0]) ?_ 1 _ rfl; (with_reducible repeat (first | refine blk_drewN ?_ _ | refine blk_drew ?_ | refine blk_alloc ?_ _)); refine blk_put (cs := #[.slice none 0 0, .slice none 0 0]) ?_ 0 _ rfl; (with_reducible repeat (first | refine blk_drewN ?_ _ | refine blk_drew ?_ | refine blk_alloc ?_ _)); exact BK281.out⟩
 have n4_ : Aside0 (IsS124 w ((w9.setCell ⟨gb281, 0, none⟩ (.slice Ao10 t273.length co10)).setCell ⟨gb281, 1, none⟩ (.slice Ao14 t276.length co14)) g272 t269 t279 t280) := ⟨by repeat (first | (with_reducible first | exact HI272.out | apply IsS124.alloc | apply IsS124.drewN | apply IsS124.drew | apply IsS124.set_1 | apply IsS124.set_2 | refine IsS124.far ?_ NB272_268.out _ | refine IsS124.far ?_ NB272_281.out _) | exact HI272.out)⟩
 have n5_ : Aside0 (Below w.heap.size w ((w9.setCell ⟨gb281, 0, none⟩ (.slice Ao10 t273.length co10)).setCell ⟨gb281, 1, none⟩ (.slice Ao14 t276.length co14))) := ⟨bw3 HB.out (IsS124.ge HI272.out) GE268.out GE281.out⟩
 (try clear HO275)
 (try clear HO278)
 (try clear BK268)
 (try clear BK281)
 (try clear HI272)
 (try clear HB)
 generalize ((w9.setCell ⟨gb281, 0, none⟩ (.slice Ao10 t273.length co10)).setCell ⟨gb281, 1, none⟩ (.slice Ao14 t276.length co14)) = w15 at n0_ n1_ n2_ n3_ n4_ n5_ ⊢
 have HO275 := n0_
 have HO278 := n1_
 have BK268 := n2_
 have BK281 := n3_
 have HI272 := n4_
 have HB := n5_
 clear n0_ n1_ n2_ n3_ n4_ n5_
 have n0_ := Ak (Kd.Q_drew HO275.out)
 have n1_ := Ak (Kd.S_drew HO278.out)
 have n2_ := Ak (blk_drew BK268.out)
 have n3_ := Ak (blk_drew BK281.out)
 have n4_ := Ak (IsS124.drew HI272.out)
 have n5_ := Ak (below_drew1 HB.out)
 clear HO275
 clear HO278
 clear BK268
 clear BK281
 clear HI272
 clear HB
 have HO275 := n0_
 have HO278 := n1_
 have BK268 := n2_
 have BK281 := n3_
 have HI272 := n4_
 have HB := n5_
 clear n0_ n1_ n2_ n3_ n4_ n5_
 refine start_ (n := 7) (S := fun w' => w'.cell? ⟨gb281, 0, none⟩ = some (.slice Ao10 t273.length co10) ∧ w'.cell? ⟨gb281, 1, none⟩ = some (.slice Ao14 t276.length co14)) (ds := []) #[false, false, false, false, false, false, false] (by kernel_rfl) rfl rfl ⟨(blk_cell BK281.out 0).trans rfl, (blk_cell BK281.out 1).trans rfl⟩ (fun hHeld => ?_)
 generalize w15.drew = w16 at HO275 HO278 BK268 BK281 HI272 HB hHeld ⊢
 refine pure_ (i := 1) (N := some 11) (v := ?_) (a' := ?_) #[false, true, false, false, false, false, false] rfl rfl (by kernel_rfl) (fun _ _ _ h => h) (Or.inl ⟨by rfl, ?_⟩) ?_ ?_
 rotate_left
 ·intro w'
  go_simp
  with_reducible rfl
 rotate_left
 ·simp only [Act.put, sT, sZ, sS, i64_w, i32_w]
  rfl
 refine pure_ (i := 2) (N := some 12) (v := ?_) (a' := ?_) #[false, true, true, false, false, false, false] rfl rfl (by kernel_rfl) (fun _ _ _ h => h) (Or.inl ⟨by rfl, ?_⟩) ?_ ?_
 rotate_left
 ·intro w'
  go_simp
  with_reducible rfl
 rotate_left
 ·simp only [Act.put, sT, sZ, sS, i64_w, i32_w]
  rfl
 refine take_ (i := 0) (N := some 10) (v := ?_) (a' := ?_) #[true, true, true, false, false, false, false] rfl rfl (by kernel_rfl) (fun _ _ _ h => h) (Or.inl ⟨by rfl, ?_⟩) hHeld ?_ ?_
 rotate_left
 ·rintro w' ⟨s0, s1⟩
  go_simp
  with_reducible rfl
 rotate_left
 ·simp only [Act.put, sT, sZ, sS, i64_w, i32_w]
  rfl
 refine one_ (i := 3) (N := some 13) #[true, true, true, true, false, false, false] rfl rfl (by kernel_rfl) (by decide) (fun K hK => ?_)
 refine goes_ Try.func56 (by kernel_rfl) rfl #[.pointer (some ⟨g272, 0, none⟩), .int .i64 3] (by rfl) rfl rfl gm ?_
 with_reducible refine (spec_l1Below.calls g272 t269 t279 t280 3 t282 t283 t284 w _ ?side1 ?side2 A4.out).mono ?_
 (case side1 => repeat (first | (with_reducible first | exact HI272.out | apply IsS124.alloc | apply IsS124.drewN | apply IsS124.drew | apply IsS124.set_1 | apply IsS124.set_2 | refine IsS124.far ?_ NB272_268.out _ | refine IsS124.far ?_ NB272_281.out _) | exact HI272.out))
 (case side2 => repeat (first | (with_reducible first | exact HB.out | apply below_alloc | apply pw_below_drewN | apply below_drew1 | refine below_set ?_ (IsS124.ge HI272.out) | refine below_set ?_ GE268.out | refine below_set ?_ GE281.out) | exact HB.out))
 rintro e w17 ⟨rfl, hi, hb, hk⟩
 refine ⟨_, rfl, ?_⟩
 have n0_ := Ak (KeepBut.blk hk (g' := gb268) (o := .cells #[.slice none 0 0, .slice none 0 0] 26 (0, 0)) (bq BK268.out) NB268_272.out (by simp))
 have n1_ := Ak (Kd.Q_mono (Kd.Q_keep (IsS124.apartQ (show IsS124 w _ g272 t269 t279 t280 from by repeat (first | (with_reducible first | exact HI272.out | apply IsS124.alloc | apply IsS124.drewN | apply IsS124.drew | apply IsS124.set_1 | apply IsS124.set_2 | refine IsS124.far ?_ NB272_268.out _ | refine IsS124.far ?_ NB272_281.out _) | exact HI272.out)) (qq HO275.out) (by decide)) hk (fun _ h => h.2)) (fun _ h => h.1))
 have n2_ := Ak (Kd.S_mono (Kd.S_keep (IsS124.apartS (show IsS124 w _ g272 t269 t279 t280 from by repeat (first | (with_reducible first | exact HI272.out | apply IsS124.alloc | apply IsS124.drewN | apply IsS124.drew | apply IsS124.set_1 | apply IsS124.set_2 | refine IsS124.far ?_ NB272_268.out _ | refine IsS124.far ?_ NB272_281.out _) | exact HI272.out)) (sq HO278.out) (by decide)) hk (fun _ h => h.2)) (fun _ h => h.1))
 have n3_ := Ak (KeepBut.blk hk (g' := gb281) (o := .cells #[.slice Ao10 t273.length co10, .slice Ao14 t276.length co14] 26 (0, 0)) (bq BK281.out) NB281_272.out (by simp))
 have n4_ := Ak (hb)
 have n5_ := Ak (hi)
 clear BK268
 clear HO275
 clear HO278
 clear BK281
 clear HB
 clear HI272
 have BK268 := n0_
 have HO275 := n1_
 have HO278 := n2_
 have BK281 := n3_
 have HB := n4_
 have HI272 := n5_
 clear n0_ n1_ n2_ n3_ n4_ n5_
 refine hK.out _ _ ⟨(blk_cell BK281.out 0).trans rfl, (blk_cell BK281.out 1).trans rfl⟩ (fun hHeld => ?_)
 clear hK K
 refine norm_ (a' := ?_) ?_ ?_
 rotate_left
 ·show Act.put _ (some 13) _ = _
  simp only [Act.put, sT, sZ, sS, i64_w, i32_w]
  rfl
 refine one_ (i := 4) (N := some 14) #[true, true, true, true, true, false, false] rfl rfl (by kernel_rfl) (by decide) (fun K hK => ?_)
 refine goes_ Try.func55 (by kernel_rfl) rfl #[.pointer (some ⟨g272, 0, none⟩), .int .i64 t282] (by rfl) rfl rfl gm ?_
 with_reducible refine (spec_l1Bytes.calls k g272 t269 t283 t284 t282 t285 t288 t289 w _ ?side1 ?side2 A5.out).mono ?_
 (case side1 => repeat (first | (with_reducible first | exact HI272.out | apply IsS124.alloc | apply IsS124.drewN | apply IsS124.drew | apply IsS124.set_1 | apply IsS124.set_2 | refine IsS124.far ?_ NB272_268.out _ | refine IsS124.far ?_ NB272_281.out _) | exact HI272.out))
 (case side2 => repeat (first | (with_reducible first | exact HB.out | apply below_alloc | apply pw_below_drewN | apply below_drew1 | refine below_set ?_ (IsS124.ge HI272.out) | refine below_set ?_ GE268.out | refine below_set ?_ GE281.out) | exact HB.out))
 rintro e w18 ⟨v286, rfl, ho0, hi, hb, hk⟩
 refine ⟨_, rfl, ?_⟩
 have n0_ := Ak (KeepBut.blk hk (g' := gb268) (o := .cells #[.slice none 0 0, .slice none 0 0] 26 (0, 0)) (bq BK268.out) NB268_272.out (by simp))
 have n1_ := Ak (Kd.Q_mono (Kd.Q_told (Kd.Q_oldK (IsS124.apartQ (show IsS124 w _ g272 t269 t283 t284 from by repeat (first | (with_reducible first | exact HI272.out | apply IsS124.alloc | apply IsS124.drewN | apply IsS124.drew | apply IsS124.set_1 | apply IsS124.set_2 | refine IsS124.far ?_ NB272_268.out _ | refine IsS124.far ?_ NB272_281.out _) | exact HI272.out)) (qq HO275.out) (by decide)) hk) (Kd.R_base ho0)) (fun _ h_ => h_.1))
 have n2_ := Ak (Kd.S_mono (Kd.S_told (Kd.S_oldK (IsS124.apartS (show IsS124 w _ g272 t269 t283 t284 from by repeat (first | (with_reducible first | exact HI272.out | apply IsS124.alloc | apply IsS124.drewN | apply IsS124.drew | apply IsS124.set_1 | apply IsS124.set_2 | refine IsS124.far ?_ NB272_268.out _ | refine IsS124.far ?_ NB272_281.out _) | exact HI272.out)) (sq HO278.out) (by decide)) hk) (Kd.R_base ho0)) (fun _ h_ => h_.1))
 have n3_ := Ak (KeepBut.blk hk (g' := gb281) (o := .cells #[.slice Ao10 t273.length co10, .slice Ao14 t276.length co14] 26 (0, 0)) (bq BK281.out) NB281_272.out (by simp))
 have n4_ := Ak (Kd.R_lower (Kd.R_new' ho0 (Kd.Q_lt (qq HO275.out))) (below_size (bw3 HB.out (IsS124.ge HI272.out) GE268.out GE281.out)))
 have n5_ := Ak (hb)
 have n6_ := Ak (hi)
 clear BK268
 clear HO275
 clear HO278
 clear BK281
 clear HB
 clear HI272
 have BK268 := n0_
 have HO275 := n1_
 have HO278 := n2_
 have BK281 := n3_
 have HO287 := n4_
 have HB := n5_
 have HI272 := n6_
 clear n0_ n1_ n2_ n3_ n4_ n5_ n6_
 refine hK.out _ _ ⟨(blk_cell BK281.out 0).trans rfl, (blk_cell BK281.out 1).trans rfl⟩ (fun hHeld => ?_)
 clear hK K
 refine norm_ (a' := ?_) ?_ ?_
 rotate_left
 ·show Act.put _ (some 14) _ = _
  simp only [Act.put, sT, sZ, sS, i64_w, i32_w]
  rfl
 refine one_ (i := 5) (N := none) #[true, true, true, true, true, true, false] rfl rfl (by kernel_rfl) (by decide) (fun K hK => ?_)
 have hs19 : w18.cell? ⟨gb268, 0, none⟩ = some (.slice none 0 0) := (blk_cell BK268.out 0).trans rfl
 have hfs19 := blk_frozen BK268.out 0
 have hns19_1 := NB281_268.out
 have hms19_1 := NB268_281.out
 have hs20 : w18.cell? ⟨gb268, 1, none⟩ = some (.slice none 0 0) := (blk_cell BK268.out 1).trans rfl
 have hfs20 := blk_frozen BK268.out 1
 have hns20_1 := NB281_268.out
 have hms20_1 := NB268_281.out
 refine skip_ (w1 := ?_) (by rfl) rfl ?_ ?_
 rotate_left
 ·go_simp
  rfl
 refine hK.out _ _ ⟨((cell_far (p := ⟨gb268, _, none⟩) NB281_268.out _).trans (((cell_far (p := ⟨gb268, _, none⟩) NB281_268.out _).trans (hHeld.1)))), ((cell_far (p := ⟨gb268, _, none⟩) NB281_268.out _).trans (((cell_far (p := ⟨gb268, _, none⟩) NB281_268.out _).trans (hHeld.2))))⟩ (fun hHeld => ?_)
 clear hK K
 refine pure_ (i := 6) (N := some 3) (v := ?_) (a' := ?_) #[true, true, true, true, true, true, true] rfl rfl (by kernel_rfl) (fun _ _ _ h => h) (Or.inl ⟨by rfl, ?_⟩) ?_ ?_
 rotate_left
 ·intro w'
  go_simp
  with_reducible rfl
 rotate_left
 ·simp only [Act.put, sT, sZ, sS, i64_w, i32_w]
  rfl
 refine done_ (by kernel_rfl) ?_
 try go_wp2
 refine bodyPost_ret (results_ct rfl _ _ gb268 26 #[.slice Ao10 t273.length co10, .slice Ao14 t276.length co14] (0, 0) _ rfl (by (with_reducible repeat (first | refine blk_drewN ?_ _ | refine blk_drew ?_ | refine blk_alloc ?_ _)); refine blk_put (cs := #[.slice Ao10 t273.length co10, .slice none 0 0]) ?_ 1 _ rfl; (with_reducible repeat (first | refine blk_drewN ?_ _ | refine blk_drew ?_ | refine blk_alloc ?_ _)); refine blk_put (cs := #[.slice none 0 0, .slice none 0 0]) ?_ 0 _ rfl; (with_reducible repeat (first | refine blk_drewN ?_ _ | refine blk_drew ?_ | refine blk_alloc ?_ _)); exact BK268.out) Try.underlying26 rfl (by kernel_rfl)) rfl ?_
 exact ⟨_, _, _, by first | rfl | (simp [errW_none, errW_some] <;> rfl) | (simp [*, errW_none, errW_some] <;> rfl), by (with_reducible repeat (first | apply Kd.Q_alloc | apply Kd.Q_drewN | apply Kd.Q_drew)); exact Kd.Q_mono (Kd.Q_far (p := ⟨gb268, 1, none⟩) (Kd.Q_far (p := ⟨gb268, 0, none⟩) (Kd.Q_types HO275.out BK268.out (by decide)) (fun _ hk => hk.2) (.slice Ao10 t273.length co10)) (fun _ hk => hk.2) (.slice Ao14 t276.length co14)) (fun _ hk => hk.1.2), by (with_reducible repeat (first | apply Kd.S_alloc | apply Kd.S_drewN | apply Kd.S_drew)); exact Kd.S_mono (Kd.S_far (p := ⟨gb268, 1, none⟩) (Kd.S_far (p := ⟨gb268, 0, none⟩) (Kd.S_types HO278.out BK268.out (by decide)) (fun _ hk => hk.2) (.slice Ao10 t273.length co10)) (fun _ hk => hk.2) (.slice Ao14 t276.length co14)) (fun _ hk => ⟨hk.1.1, hk.1.2⟩), by (with_reducible repeat (first | apply Kd.R_alloc | apply Kd.R_drewN | apply Kd.R_drew)); exact Kd.R_mono (Kd.R_far (p := ⟨gb268, 1, none⟩) (Kd.R_far (p := ⟨gb268, 0, none⟩) (Kd.R_types HO287.out BK268.out (by decide)) (fun _ hk => hk.2) (.slice Ao10 t273.length co10)) (fun _ hk => hk.2) (.slice Ao14 t276.length co14)) (fun _ hk => hk.1.2), bw3 HB.out (IsS124.ge HI272.out) GE268.out GE281.out⟩

end Go.Proofs.Ytinilabmffjnaaa.PFnDisk
