/- The functions that the law FnHulls reaches, each with what it computes and its contract. -/
import Derived.Test.YtgmnphckgicadaaQFnHullsx0
import Derived.Test.YtgmnphckgicadaaQFnHullsx17
import Derived.Test.YtgmnphckgicadaaQFnHullsx18
import Derived.Test.YtgmnphckgicadaaQFnHullsx19
namespace Go.Proofs.Ytgmnphckgicadaa.PFnHulls
open Go.RowKit Go.Proofs.YtgmnphckgicadaaW.PrintWords Go.Proofs.YtgmnphckgicadaaW.PrintLast Go.Proofs.YtgmnphckgicadaaW.PrintMore
attribute [local go_sem] max2_int min2_int max_two min_two max_three min_three max_four min_four
set_option linter.unusedVariables false
set_option linter.unusedSimpArgs false

def spec_l9Draw.l0 : Nat → List (S67) → Int → List Int → Int → Int → Option ((List (S67)) × Int × Int)
 | 0, _, _, _, _, _ => none
 | k + 1, x5, x6, x1000, x1001, x1002 => if x6 > 0 then ((spec_l3Draw.f k x1000 x1001 x1002).bind fun bt352 => ((spec_l3Pt.f bt352.1 bt352.2.1).bind fun bt356 => ((spec_l1Once.f x1000 bt352.2.2.1 bt352.2.2.2 40).bind fun bt359 => (if bt359.1 = true then (if x5.length < 8796093022208 then (spec_l9Draw.l0 k (x5 ++ [(⟨10000001, 0⟩ : S67)]) (wrap64 (x6 - 1)) x1000 bt359.2.1 bt359.2.2) else (none)) else (if x5.length < 8796093022208 then (spec_l9Draw.l0 k (x5 ++ [(⟨bt356.1, bt356.2⟩ : S67)]) (wrap64 (x6 - 1)) x1000 bt359.2.1 bt359.2.2) else (none)))))) else (some (x5, x1001, x1002))
def spec_l9Draw.f (k : Nat) (s0_0 : List Int) (s0_1 : Int) (s0_2 : Int) (a1 : Int) : Option ((List (S67)) × Int × Int) := (spec_l1Below.f s0_0 s0_1 s0_2 a1).bind fun bt349 => (spec_l9Draw.l0 k (([] : List (S67))) bt349.1 s0_0 bt349.2.1 bt349.2.2)
theorem IsS126.grownL {w0 W0 W : World} {g : Nat} {f0 : List Int} {f1 : Int} {f2 : Int} {W1 : World} {row : Option Nat} (h0 : IsS126 w0 W0 g f0 f1 f2) (s : IsS126 w0 W0 g f0 f1 f2 → IsS126 w0 W g f0 f1 f2) (hw : W.grownBy W1 row) (hne : some g ≠ row) : IsS126 w0 W1 g f0 f1 f2 := (s h0).grown hw hne
set_option maxHeartbeats 8000000 in
set_option maxRecDepth 100000 in
theorem spec_l9Draw.calls (k : Nat) (g : Nat) (s0_0 : List Int) (s0_1 : Int) (s0_2 : Int) (a1 : Int) (r1 : List (S67)) (r2 : Int) (r3 : Int) (w0 w : World) (hI : IsS126 w0 w g s0_0 s0_1 s0_2) (hB : Below w0.heap.size w0 w) (h : spec_l9Draw.f k s0_0 s0_1 s0_2 a1 = some (r1, r2, r3)) :
  Calls Try.prog 87 #[.pointer (some ⟨g, 0, none⟩), .int .i64 a1] w fun e w' => ∃ v0_ : Value, e = .returned (v0_) ∧ Kd.R k67 67 w' w.heap.size (fun _ => True) v0_ r1 ∧ IsS126 w0 w' g s0_0 r2 r3 ∧ Below w0.heap.size w0 w' ∧ KeepBut w w' g none := by
 have hu67 := Try.underlying67
 have HI0 := Ak hI
 have HK := Ak (KeepBut.refl w g none)
 have HL := Ak hB.size
 clear hI
 have HW0 := Ak hB.size
 have HB := Ak hB
 clear hB
 have H : ((spec_l1Below.f s0_0 s0_1 s0_2 a1).bind fun bt349 => (spec_l9Draw.l0 k (([] : List (S67))) bt349.1 s0_0 bt349.2.1 bt349.2.2)) = some (r1, r2, r3) := h
 clear h
 obtain ⟨y346, hy346⟩ : ∃ y_ : List (S67), y_ = (([] : List (S67))) := ⟨_, rfl⟩
 replace H : ((spec_l1Below.f s0_0 s0_1 s0_2 a1).bind fun bt349 => (spec_l9Draw.l0 k y346 bt349.1 s0_0 bt349.2.1 bt349.2.2)) = some (r1, r2, r3) := by first | (rw [hy346]; with_reducible exact H) | (have H2_ := (Option.bind_some _ _).symm.trans H; rw [hy346]; with_reducible exact H2_) | (have H2_ := (Option.bind_some _ _).symm.trans H; with_reducible exact H2_) | with_reducible exact H | (rw [hy346]; exact H) | exact H
 have Ny346 := Ak hy346
 clear hy346
 replace H := Option.bind_eq_some_iff.mp H
 obtain ⟨⟨t349, t350, t351⟩, A30, H⟩ := H
 (try dsimp only at H)
 have A3 := Ak A30
 clear A30
 have H' := Ak H
 clear H
 go_enter Try.func87, Try.ntmps87
 go_wp2_with (first | ((with_reducible refine gate_dst (N := 8) rfl ?_); refine Kd.R_lit k67 _ 67 ?hg (N := 8) ?hd (xs := ([] : List (S67))) (inner := []) (ok := fun _ => True) (okp := fun _ => True) ?hr ?hp (fun _ hk => hk) trivial (Below.refl _ _) (Nat.le_refl _) (by simp) ?_; (case hd => rfl); (case hg => rfl); (case hr => first | (go_simp; done) | (go_simp; rfl)); (case hp => exact (Reps.none _ _)); intro v347 w4 ho5 hb hg_ hnew_; clear hg_ hnew_; (first | rw [← Ny346.out] at ho5 | (simp only [Int.reduceToNat] at ho5; rw [← Ny346.out] at ho5)); have HO348 := Ak (Kd.R_lower ho5 (keep_size (w := w) (g := g) (row := none) (kq0 HK.out))); replace HK := Ak (KeepBut.trans (kq0 HK.out) (KeepBut.of_below hb g none) (.inl rfl)); replace HB := Ak (below_step (bw1 HB.out (IsS126.ge HI0.out)) hb); replace HI0 := Ak (IsS126.below (by repeat (first | (with_reducible first | exact HI0.out | apply IsS126.alloc | apply IsS126.drewN | apply IsS126.drew | apply IsS126.set_1 | apply IsS126.set_2) | exact HI0.out)) hb); clear hb ho5) | ((with_reducible refine gate_callee (f := 86) rfl ?_); refine goesL_ (some 11) rfl rfl Try.func86 (by kernel_rfl) rfl #[.pointer (some ⟨g, 0, none⟩), .int .i64 a1] rfl gm ?_; (with_reducible refine (spec_l1Below.calls g s0_0 s0_1 s0_2 a1 t349 t350 t351 w0 _ ?side1 ?side2 A3.out).mono ?_); (case side1 => repeat (first | (with_reducible first | exact HI0.out | apply IsS126.alloc | apply IsS126.drewN | apply IsS126.drew | apply IsS126.set_1 | apply IsS126.set_2) | exact HI0.out)); (case side2 => repeat (first | (with_reducible first | exact HB.out | apply below_alloc | apply pw_below_drewN | apply below_drew1 | refine below_set ?_ (IsS126.ge HI0.out)) | exact HB.out)); rintro e w6 ⟨rfl, hi, hb, hk⟩; refine ⟨_, rfl, ?_⟩; replace HO348 := Ak (Kd.R_mono (Kd.R_keep (IsS126.apart (show IsS126 w0 _ g s0_0 s0_1 s0_2 from by repeat (first | (with_reducible first | exact HI0.out | apply IsS126.alloc | apply IsS126.drewN | apply IsS126.drew | apply IsS126.set_1 | apply IsS126.set_2) | exact HI0.out)) (rq HO348.out) (by decide)) hk (fun _ h => h.2)) (fun _ h => h.1)); replace HK := Ak (KeepBut.trans (kq0 HK.out) hk (.inl rfl)); replace HB := Ak (hb); replace HI0 := Ak (hi)))
 go_loopg [5, 6] k (fun kq v5 v6 w' => ∃ (x5_1 : List (S67)) (x6_1 : Int) (x1001_1 : Int) (x1002_1 : Int), v6 = .int .i64 x6_1 ∧ Aside0 (spec_l9Draw.l0 kq x5_1 x6_1 s0_0 x1001_1 x1002_1 = some (r1, r2, r3)) ∧ Aside0 (kq ≤ k) ∧ Aside0 (Kd.R k67 67 w' w.heap.size (fun _ => True) v5 x5_1) ∧ Aside0 (IsS126 w0 w' g s0_0 x1001_1 x1002_1) ∧ Aside0 (KeepBut w w' g none) ∧ Aside0 (Below w0.heap.size w0 w'))
 case atStart => exact ⟨(y346), (t349), (t350), (t351), (by first | rfl | (simp; done) | (simp [*]; done)), H', ⟨Nat.le_refl _⟩, ⟨rq HO348.out⟩, ⟨by repeat (first | (with_reducible first | exact HI0.out | apply IsS126.alloc | apply IsS126.drewN | apply IsS126.drew | apply IsS126.set_1 | apply IsS126.set_2) | exact HI0.out)⟩, ⟨kq0 HK.out⟩, ⟨bw1 HB.out (IsS126.ge HI0.out)⟩⟩
 case round =>
  clear H'
  obtain ⟨x5_1, x6_1, x1001_1, x1002_1, rfl, HA, HK1, HO_5, HI0, HK, HB⟩ := hrel
  cases gk with
  | zero => exact absurd HA.out (by simp [spec_l9Draw.l0])
  | succ k1 =>
   have H := HA.out
   clear HA
   simp only [spec_l9Draw.l0] at H
   by_cases c7 : x6_1 > 0
   ·rw [if_pos c7] at H
    have c7b0 : decide (0 < x6_1) = true := decide_eq_true c7
    clear c7
    replace H := Option.bind_eq_some_iff.mp H
    obtain ⟨⟨t352, t353, t354, t355⟩, A80, H⟩ := H
    (try dsimp only at H)
    have A8 := Ak A80
    clear A80
    replace H := Option.bind_eq_some_iff.mp H
    obtain ⟨⟨t356, t357⟩, A90, H⟩ := H
    (try dsimp only at H)
    have A9 := Ak A90
    clear A90
    replace H := Option.bind_eq_some_iff.mp H
    obtain ⟨⟨t359, t360, t361⟩, A100, H⟩ := H
    (try dsimp only at H)
    have A10 := Ak A100
    clear A100
    by_cases c11 : t359 = true
    ·subst c11
     have H1 : (if x5_1.length < 8796093022208 then (spec_l9Draw.l0 k1 (x5_1 ++ [(⟨10000001, 0⟩ : S67)]) (wrap64 (x6_1 - 1)) s0_0 t360 t361) else (none)) = some (r1, r2, r3) := by rw [if_pos rfl] at H; exact H
     clear H
     have H := H1
     clear H1
     by_cases c12 : x5_1.length < 8796093022208
     ·rw [if_pos c12] at H
      have LMc12 := Ak c12
      clear c12
      obtain ⟨y362, hy362⟩ : ∃ y_ : List (S67), y_ = (x5_1 ++ [(⟨10000001, 0⟩ : S67)]) := ⟨_, rfl⟩
      replace H : (spec_l9Draw.l0 k1 y362 (wrap64 (x6_1 - 1)) s0_0 t360 t361) = some (r1, r2, r3) := by first | (rw [hy362]; with_reducible exact H) | (have H2_ := (Option.bind_some _ _).symm.trans H; rw [hy362]; with_reducible exact H2_) | (have H2_ := (Option.bind_some _ _).symm.trans H; with_reducible exact H2_) | with_reducible exact H | (rw [hy362]; exact H) | exact H
      have Ny362 := Ak hy362
      clear hy362
      have H' := Ak H
      clear H
      go_wp2_with (first | ((with_reducible refine gate_callee (f := 125) rfl ?_); refine goesL_ (some 17) rfl rfl Try.func125 (by kernel_rfl) rfl #[.pointer (some ⟨g, 0, none⟩)] rfl gm ?_; (with_reducible refine (spec_l3Draw.calls k1 g s0_0 x1001_1 x1002_1 t352 t353 t354 t355 w0 _ ?side1 ?side2 A8.out).mono ?_); (case side1 => repeat (first | (with_reducible first | exact HI0.out | apply IsS126.alloc | apply IsS126.drewN | apply IsS126.drew | apply IsS126.set_1 | apply IsS126.set_2) | exact HI0.out)); (case side2 => repeat (first | (with_reducible first | exact HB.out | apply below_alloc | apply pw_below_drewN | apply below_drew1 | refine below_set ?_ (IsS126.ge HI0.out)) | exact HB.out)); rintro e w13 ⟨rfl, hi, hb, hk⟩; refine ⟨_, rfl, ?_⟩; replace HO_5 := Ak (Kd.R_mono (Kd.R_keep (IsS126.apart (show IsS126 w0 _ g s0_0 x1001_1 x1002_1 from by repeat (first | (with_reducible first | exact HI0.out | apply IsS126.alloc | apply IsS126.drewN | apply IsS126.drew | apply IsS126.set_1 | apply IsS126.set_2) | exact HI0.out)) (rq HO_5.out) (by decide)) hk (fun _ h => h.2)) (fun _ h => h.1)); replace HK := Ak (KeepBut.trans (kq0 HK.out) hk (.inl rfl)); replace HB := Ak (hb); replace HI0 := Ak (hi)) | ((with_reducible refine gate_callee (f := 124) rfl ?_); refine goesL_ (some 18) rfl rfl Try.func124 (by kernel_rfl) rfl #[.agg #[.int .i64 t352, .int .i64 t353]] rfl gm ?_; (with_reducible refine (spec_l3Pt.calls t352 t353 t356 t357 _ A9.out).mono ?_); rintro e w14 ⟨rfl, hb⟩; refine ⟨_, rfl, ?_⟩; replace HO_5 := Ak (Kd.R_below (rq HO_5.out) hb); replace HK := Ak (KeepBut.trans (kq0 HK.out) (KeepBut.of_below hb g none) (.inl rfl)); replace HB := Ak (below_step (bw1 HB.out (IsS126.ge HI0.out)) hb); replace HI0 := Ak (IsS126.below (by repeat (first | (with_reducible first | exact HI0.out | apply IsS126.alloc | apply IsS126.drewN | apply IsS126.drew | apply IsS126.set_1 | apply IsS126.set_2) | exact HI0.out)) hb)) | ((with_reducible refine gate_dst (N := 7) rfl ?_); refine box_event ?hg (N := 7) ?hd (cs := #[.int .i64 0, .int .i64 0]) (t := 67) ?hr ?_; (case hd => rfl); (case hg => rfl); (case hr => first | (go_simp; done) | (go_simp; rfl)); intro gb358 hg w15 hbox hb; replace HO_5 := Ak (Kd.R_below (Kd.R_elderB (rq HO_5.out) gb358 (Nat.le_of_eq hg.symm)) hb); replace HB := Ak (below_step (bw1 HB.out (IsS126.ge HI0.out)) hb); have BK358 := Ak (hbox); have GW358 := Ak ((by rw [hg]; exact (keep_size (w := w) (g := g) (row := none) (kq0 HK.out)) : w.heap.size ≤ gb358)); have GE358 := Ak ((Nat.le_trans HW0.out (by rw [hg]; exact (keep_size (w := w) (g := g) (row := none) (kq0 HK.out)) : w.heap.size ≤ gb358) : w0.heap.size ≤ gb358)); replace HK := Ak (KeepBut.trans (kq0 HK.out) (KeepBut.of_below hb g none) (.inl rfl)); have NB0_358 := Ak ((by rw [hg]; exact Nat.ne_of_lt (IsS126.lt (show IsS126 w0 _ g s0_0 t354 t355 from by repeat (first | (with_reducible first | exact HI0.out | apply IsS126.alloc | apply IsS126.drewN | apply IsS126.drew | apply IsS126.set_1 | apply IsS126.set_2) | exact HI0.out))) : g ≠ gb358)); have NB358_0 := Ak ((by rw [hg]; exact Nat.ne_of_gt (IsS126.lt (show IsS126 w0 _ g s0_0 t354 t355 from by repeat (first | (with_reducible first | exact HI0.out | apply IsS126.alloc | apply IsS126.drewN | apply IsS126.drew | apply IsS126.set_1 | apply IsS126.set_2) | exact HI0.out))) : gb358 ≠ g)); replace HI0 := Ak (IsS126.below (by repeat (first | (with_reducible first | exact HI0.out | apply IsS126.alloc | apply IsS126.drewN | apply IsS126.drew | apply IsS126.set_1 | apply IsS126.set_2) | exact HI0.out)) hb); clear hb hbox hg; have hnb16 := NB358_0.out; have hnc16 := NB0_358.out; have hcz17_0 := zk0 BK358.out; have hcz17_1 := zk1 BK358.out; have hfz17_0 := blk_frozen BK358.out 0; have hfz17_1 := blk_frozen BK358.out 1) | ((with_reducible refine gate_callee (f := 85) rfl ?_); refine goesL_ (some 20) rfl rfl Try.func85 (by kernel_rfl) rfl #[.pointer (some ⟨g, 0, none⟩), .int .i64 40] rfl gm ?_; (with_reducible refine (spec_l1Once.calls g s0_0 t354 t355 40 true t360 t361 w0 _ ?side1 ?side2 A10.out).mono ?_); (case side1 => repeat (first | (with_reducible first | exact HI0.out | apply IsS126.alloc | apply IsS126.drewN | apply IsS126.drew | apply IsS126.set_1 | apply IsS126.set_2 | refine IsS126.far ?_ NB0_358.out _) | exact HI0.out)); (case side2 => repeat (first | (with_reducible first | exact HB.out | apply below_alloc | apply pw_below_drewN | apply below_drew1 | refine below_set ?_ (IsS126.ge HI0.out) | refine below_set ?_ GE358.out) | exact HB.out)); rintro e w18 ⟨rfl, hi, hb, hk⟩; refine ⟨_, rfl, ?_⟩; replace HO_5 := Ak (Kd.R_mono (Kd.R_keep (IsS126.apart (show IsS126 w0 _ g s0_0 t354 t355 from by repeat (first | (with_reducible first | exact HI0.out | apply IsS126.alloc | apply IsS126.drewN | apply IsS126.drew | apply IsS126.set_1 | apply IsS126.set_2 | refine IsS126.far ?_ NB0_358.out _) | exact HI0.out)) (by (with_reducible repeat (first | apply Kd.R_alloc | apply Kd.R_drewN | apply Kd.R_drew)); exact (Kd.R_mono (Kd.R_far (p := ⟨gb358, 1, none⟩) (Kd.R_far (p := ⟨gb358, 0, none⟩) (Kd.R_mono HO_5.out (fun k_ hk => (⟨hk, hk.2⟩ : _ ∧ k_ ≠ gb358))) (fun _ hk => hk.2) (.int .i64 t356)) (fun _ hk => hk.2) (.int .i64 t357)) (fun _ h_ => h_.1))) (by decide)) hk (fun _ h => h.2)) (fun _ h => h.1)); replace BK358 := Ak (KeepBut.blk hk (g' := gb358) (o := .cells #[.int .i64 t356, .int .i64 t357] 67 (0, 0)) (by refine bq ?_; refine blk_put (cs := #[.int .i64 t356, .int .i64 0]) ?_ 1 _ rfl; refine bq ?_; refine blk_put (cs := #[.int .i64 0, .int .i64 0]) ?_ 0 _ rfl; exact bq BK358.out) NB358_0.out (by simp)); replace HK := Ak (KeepBut.trans (kq1 HK.out GW358.out) hk (.inl rfl)); replace HB := Ak (hb); replace HI0 := Ak (hi); have hcz19_0 := zk0 BK358.out; have hcz19_1 := zk1 BK358.out; have hfz19_0 := blk_frozen BK358.out 0; have hfz19_1 := blk_frozen BK358.out 1) | ((with_reducible refine gate_builtin (b := .append) (xs := #[.tmp 22, .tmp 24]) rfl ?_); at_builtin; refine Kd.R_append k67 w.heap.size rfl (.tmp 22) (.tmp 24) 58 67 (.agg #[(.int .i64 0), (.int .i64 0)]) 16 rfl Try.underlying58 info67 rfl (by decide) (by omega) u5 x5_1 (⟨10000001, 0⟩ : S67) [.int .i64 10000001, .int .i64 0] (fun k_ => k_ ≠ gb358) (fun _ => False) rfl (by first | (go_simp; done) | (go_simp; rfl)) ?aP (fun _ hk => hk.elim) ?aF ?aO (Below.refl _ _) ?aS ?aL ?_; (case aP => exact k67_mkM _ _ _ (⟨10000001, 0⟩ : S67)); (case aF => exact (fun k_ hk => Kd.freshB (g := gb358) (o := .cells #[.int .i64 10000001, .int .i64 0] 67 (0, 0)) (by refine bq ?_; refine blk_put (cs := #[.int .i64 10000001, .int .i64 t357]) ?_ 1 _ rfl; refine bq ?_; refine blk_put (cs := #[.int .i64 t356, .int .i64 t357]) ?_ 0 _ rfl; exact bq BK358.out) k_ hk)); (case aO => exact (by refine rq ?_; exact Kd.R_mono (Kd.R_far (p := ⟨gb358, 1, none⟩) (Kd.R_far (p := ⟨gb358, 0, none⟩) (Kd.R_mono HO_5.out (fun k_ hk => (⟨hk, hk.2⟩ : _ ∧ k_ ≠ gb358))) (fun _ hk => hk.2) (.int .i64 10000001)) (fun _ hk => hk.2) (.int .i64 0)) (fun _ hk => hk.1.2))); (case aS => exact (keep_size (w := w) (g := g) (row := none) (kq1 HK.out GW358.out))); (case aL => have := LMc12.out; omega); intro v363 w20 ho hb hg hat; rw [← Ny362.out] at ho; replace BK358 := Ak (blk_grown (g := gb358) (o := .cells #[.int .i64 10000001, .int .i64 0] 67 (0, 0)) (by refine bq ?_; refine blk_put (cs := #[.int .i64 10000001, .int .i64 t357]) ?_ 1 _ rfl; refine bq ?_; refine blk_put (cs := #[.int .i64 t356, .int .i64 t357]) ?_ 0 _ rfl; exact bq BK358.out) hg (Kd.R_away HO_5.out (fun _ hk => hk.2))); replace HB := Ak (below_weaken (bw2 HB.out (IsS126.ge HI0.out) GE358.out) HL.out hb); replace HI0 := Ak (IsS126.grownL HI0.out (fun h_ => by repeat (first | (with_reducible first | exact h_ | apply IsS126.alloc | apply IsS126.drewN | apply IsS126.drew | apply IsS126.set_1 | apply IsS126.set_2 | refine IsS126.far ?_ NB0_358.out _) | exact h_)) hg (IsS126.own_ne HI0.out HO_5.out (by decide))); replace HK := Ak (KeepBut.trans (kq1 HK.out GW358.out) (KeepBut.of_grown hg g) (Kd.R_base2 HO_5.out)); have HO364 := Ak (ho); clear HO_5; clear ho hb hg hat))
      go_roundg k1
      case measure => have := HK1.out; omega
      case rel => exact ⟨(y362), (wrap64 (x6_1 - 1)), (t360), (t361), (by first | rfl | (simp; done) | (simp [*]; done)), H', ⟨by have := HK1.out; omega⟩, ⟨by refine rq ?_; exact Kd.R_mono HO364.out (fun _ hk => trivial)⟩, ⟨by repeat (first | (with_reducible first | exact HI0.out | apply IsS126.alloc | apply IsS126.drewN | apply IsS126.drew | apply IsS126.set_1 | apply IsS126.set_2 | refine IsS126.far ?_ NB0_358.out _) | exact HI0.out)⟩, ⟨kq1 HK.out GW358.out⟩, ⟨bw2 HB.out (IsS126.ge HI0.out) GE358.out⟩⟩
     ·rw [if_neg c12] at H
      exact absurd H (by simp)
    ·replace c11 := Bool.eq_false_iff.mpr c11
     subst c11
     have H1 : (if x5_1.length < 8796093022208 then (spec_l9Draw.l0 k1 (x5_1 ++ [(⟨t356, t357⟩ : S67)]) (wrap64 (x6_1 - 1)) s0_0 t360 t361) else (none)) = some (r1, r2, r3) := by rw [if_neg (show ¬ (false = true) by decide)] at H; exact H
     clear H
     have H := H1
     clear H1
     by_cases c21 : x5_1.length < 8796093022208
     ·rw [if_pos c21] at H
      have LMc21 := Ak c21
      clear c21
      obtain ⟨y365, hy365⟩ : ∃ y_ : List (S67), y_ = (x5_1 ++ [(⟨t356, t357⟩ : S67)]) := ⟨_, rfl⟩
      replace H : (spec_l9Draw.l0 k1 y365 (wrap64 (x6_1 - 1)) s0_0 t360 t361) = some (r1, r2, r3) := by first | (rw [hy365]; with_reducible exact H) | (have H2_ := (Option.bind_some _ _).symm.trans H; rw [hy365]; with_reducible exact H2_) | (have H2_ := (Option.bind_some _ _).symm.trans H; with_reducible exact H2_) | with_reducible exact H | (rw [hy365]; exact H) | exact H
      have Ny365 := Ak hy365
      clear hy365
      have H' := Ak H
      clear H
      go_wp2_with (first | ((with_reducible refine gate_callee (f := 125) rfl ?_); refine goesL_ (some 17) rfl rfl Try.func125 (by kernel_rfl) rfl #[.pointer (some ⟨g, 0, none⟩)] rfl gm ?_; (with_reducible refine (spec_l3Draw.calls k1 g s0_0 x1001_1 x1002_1 t352 t353 t354 t355 w0 _ ?side1 ?side2 A8.out).mono ?_); (case side1 => repeat (first | (with_reducible first | exact HI0.out | apply IsS126.alloc | apply IsS126.drewN | apply IsS126.drew | apply IsS126.set_1 | apply IsS126.set_2) | exact HI0.out)); (case side2 => repeat (first | (with_reducible first | exact HB.out | apply below_alloc | apply pw_below_drewN | apply below_drew1 | refine below_set ?_ (IsS126.ge HI0.out)) | exact HB.out)); rintro e w22 ⟨rfl, hi, hb, hk⟩; refine ⟨_, rfl, ?_⟩; replace HO_5 := Ak (Kd.R_mono (Kd.R_keep (IsS126.apart (show IsS126 w0 _ g s0_0 x1001_1 x1002_1 from by repeat (first | (with_reducible first | exact HI0.out | apply IsS126.alloc | apply IsS126.drewN | apply IsS126.drew | apply IsS126.set_1 | apply IsS126.set_2) | exact HI0.out)) (rq HO_5.out) (by decide)) hk (fun _ h => h.2)) (fun _ h => h.1)); replace HK := Ak (KeepBut.trans (kq0 HK.out) hk (.inl rfl)); replace HB := Ak (hb); replace HI0 := Ak (hi)) | ((with_reducible refine gate_callee (f := 124) rfl ?_); refine goesL_ (some 18) rfl rfl Try.func124 (by kernel_rfl) rfl #[.agg #[.int .i64 t352, .int .i64 t353]] rfl gm ?_; (with_reducible refine (spec_l3Pt.calls t352 t353 t356 t357 _ A9.out).mono ?_); rintro e w23 ⟨rfl, hb⟩; refine ⟨_, rfl, ?_⟩; replace HO_5 := Ak (Kd.R_below (rq HO_5.out) hb); replace HK := Ak (KeepBut.trans (kq0 HK.out) (KeepBut.of_below hb g none) (.inl rfl)); replace HB := Ak (below_step (bw1 HB.out (IsS126.ge HI0.out)) hb); replace HI0 := Ak (IsS126.below (by repeat (first | (with_reducible first | exact HI0.out | apply IsS126.alloc | apply IsS126.drewN | apply IsS126.drew | apply IsS126.set_1 | apply IsS126.set_2) | exact HI0.out)) hb)) | ((with_reducible refine gate_dst (N := 7) rfl ?_); refine box_event ?hg (N := 7) ?hd (cs := #[.int .i64 0, .int .i64 0]) (t := 67) ?hr ?_; (case hd => rfl); (case hg => rfl); (case hr => first | (go_simp; done) | (go_simp; rfl)); intro gb358 hg w24 hbox hb; replace HO_5 := Ak (Kd.R_below (Kd.R_elderB (rq HO_5.out) gb358 (Nat.le_of_eq hg.symm)) hb); replace HB := Ak (below_step (bw1 HB.out (IsS126.ge HI0.out)) hb); have BK358 := Ak (hbox); have GW358 := Ak ((by rw [hg]; exact (keep_size (w := w) (g := g) (row := none) (kq0 HK.out)) : w.heap.size ≤ gb358)); have GE358 := Ak ((Nat.le_trans HW0.out (by rw [hg]; exact (keep_size (w := w) (g := g) (row := none) (kq0 HK.out)) : w.heap.size ≤ gb358) : w0.heap.size ≤ gb358)); replace HK := Ak (KeepBut.trans (kq0 HK.out) (KeepBut.of_below hb g none) (.inl rfl)); have NB0_358 := Ak ((by rw [hg]; exact Nat.ne_of_lt (IsS126.lt (show IsS126 w0 _ g s0_0 t354 t355 from by repeat (first | (with_reducible first | exact HI0.out | apply IsS126.alloc | apply IsS126.drewN | apply IsS126.drew | apply IsS126.set_1 | apply IsS126.set_2) | exact HI0.out))) : g ≠ gb358)); have NB358_0 := Ak ((by rw [hg]; exact Nat.ne_of_gt (IsS126.lt (show IsS126 w0 _ g s0_0 t354 t355 from by repeat (first | (with_reducible first | exact HI0.out | apply IsS126.alloc | apply IsS126.drewN | apply IsS126.drew | apply IsS126.set_1 | apply IsS126.set_2) | exact HI0.out))) : gb358 ≠ g)); replace HI0 := Ak (IsS126.below (by repeat (first | (with_reducible first | exact HI0.out | apply IsS126.alloc | apply IsS126.drewN | apply IsS126.drew | apply IsS126.set_1 | apply IsS126.set_2) | exact HI0.out)) hb); clear hb hbox hg; have hnb25 := NB358_0.out; have hnc25 := NB0_358.out; have hcz26_0 := zk0 BK358.out; have hcz26_1 := zk1 BK358.out; have hfz26_0 := blk_frozen BK358.out 0; have hfz26_1 := blk_frozen BK358.out 1) | ((with_reducible refine gate_callee (f := 85) rfl ?_); refine goesL_ (some 20) rfl rfl Try.func85 (by kernel_rfl) rfl #[.pointer (some ⟨g, 0, none⟩), .int .i64 40] rfl gm ?_; (with_reducible refine (spec_l1Once.calls g s0_0 t354 t355 40 false t360 t361 w0 _ ?side1 ?side2 A10.out).mono ?_); (case side1 => repeat (first | (with_reducible first | exact HI0.out | apply IsS126.alloc | apply IsS126.drewN | apply IsS126.drew | apply IsS126.set_1 | apply IsS126.set_2 | refine IsS126.far ?_ NB0_358.out _) | exact HI0.out)); (case side2 => repeat (first | (with_reducible first | exact HB.out | apply below_alloc | apply pw_below_drewN | apply below_drew1 | refine below_set ?_ (IsS126.ge HI0.out) | refine below_set ?_ GE358.out) | exact HB.out)); rintro e w27 ⟨rfl, hi, hb, hk⟩; refine ⟨_, rfl, ?_⟩; replace HO_5 := Ak (Kd.R_mono (Kd.R_keep (IsS126.apart (show IsS126 w0 _ g s0_0 t354 t355 from by repeat (first | (with_reducible first | exact HI0.out | apply IsS126.alloc | apply IsS126.drewN | apply IsS126.drew | apply IsS126.set_1 | apply IsS126.set_2 | refine IsS126.far ?_ NB0_358.out _) | exact HI0.out)) (by (with_reducible repeat (first | apply Kd.R_alloc | apply Kd.R_drewN | apply Kd.R_drew)); exact (Kd.R_mono (Kd.R_far (p := ⟨gb358, 1, none⟩) (Kd.R_far (p := ⟨gb358, 0, none⟩) (Kd.R_mono HO_5.out (fun k_ hk => (⟨hk, hk.2⟩ : _ ∧ k_ ≠ gb358))) (fun _ hk => hk.2) (.int .i64 t356)) (fun _ hk => hk.2) (.int .i64 t357)) (fun _ h_ => h_.1))) (by decide)) hk (fun _ h => h.2)) (fun _ h => h.1)); replace BK358 := Ak (KeepBut.blk hk (g' := gb358) (o := .cells #[.int .i64 t356, .int .i64 t357] 67 (0, 0)) (by refine bq ?_; refine blk_put (cs := #[.int .i64 t356, .int .i64 0]) ?_ 1 _ rfl; refine bq ?_; refine blk_put (cs := #[.int .i64 0, .int .i64 0]) ?_ 0 _ rfl; exact bq BK358.out) NB358_0.out (by simp)); replace HK := Ak (KeepBut.trans (kq1 HK.out GW358.out) hk (.inl rfl)); replace HB := Ak (hb); replace HI0 := Ak (hi); have hcz28_0 := zk0 BK358.out; have hcz28_1 := zk1 BK358.out; have hfz28_0 := blk_frozen BK358.out 0; have hfz28_1 := blk_frozen BK358.out 1) | ((with_reducible refine gate_builtin (b := .append) (xs := #[.tmp 22, .tmp 24]) rfl ?_); at_builtin; refine Kd.R_append k67 w.heap.size rfl (.tmp 22) (.tmp 24) 58 67 (.agg #[(.int .i64 0), (.int .i64 0)]) 16 rfl Try.underlying58 info67 rfl (by decide) (by omega) u5 x5_1 (⟨t356, t357⟩ : S67) [.int .i64 t356, .int .i64 t357] (fun k_ => k_ ≠ gb358) (fun _ => False) rfl rfl ?aP (fun _ hk => hk.elim) ?aF ?aO (Below.refl _ _) ?aS ?aL ?_; (case aP => exact k67_mkM _ _ _ (⟨t356, t357⟩ : S67)); (case aF => exact (fun k_ hk => Kd.freshB (g := gb358) (o := .cells #[.int .i64 t356, .int .i64 t357] 67 (0, 0)) (bq BK358.out) k_ hk)); (case aO => exact (by refine rq ?_; exact Kd.R_mono HO_5.out (fun _ hk => hk.2))); (case aS => exact (keep_size (w := w) (g := g) (row := none) (kq1 HK.out GW358.out))); (case aL => have := LMc21.out; omega); intro v366 w29 ho hb hg hat; rw [← Ny365.out] at ho; replace BK358 := Ak (blk_grown (g := gb358) (o := .cells #[.int .i64 t356, .int .i64 t357] 67 (0, 0)) (bq BK358.out) hg (Kd.R_away HO_5.out (fun _ hk => hk.2))); replace HB := Ak (below_weaken (bw2 HB.out (IsS126.ge HI0.out) GE358.out) HL.out hb); replace HI0 := Ak (IsS126.grownL HI0.out (fun h_ => by repeat (first | (with_reducible first | exact h_ | apply IsS126.alloc | apply IsS126.drewN | apply IsS126.drew | apply IsS126.set_1 | apply IsS126.set_2 | refine IsS126.far ?_ NB0_358.out _) | exact h_)) hg (IsS126.own_ne HI0.out HO_5.out (by decide))); replace HK := Ak (KeepBut.trans (kq1 HK.out GW358.out) (KeepBut.of_grown hg g) (Kd.R_base2 HO_5.out)); have HO367 := Ak (ho); clear HO_5; clear ho hb hg hat))
      go_roundg k1
      case measure => have := HK1.out; omega
      case rel => exact ⟨(y365), (wrap64 (x6_1 - 1)), (t360), (t361), (by first | rfl | (simp; done) | (simp [*]; done)), H', ⟨by have := HK1.out; omega⟩, ⟨by refine rq ?_; exact Kd.R_mono HO367.out (fun _ hk => trivial)⟩, ⟨by repeat (first | (with_reducible first | exact HI0.out | apply IsS126.alloc | apply IsS126.drewN | apply IsS126.drew | apply IsS126.set_1 | apply IsS126.set_2 | refine IsS126.far ?_ NB0_358.out _) | exact HI0.out)⟩, ⟨kq1 HK.out GW358.out⟩, ⟨bw2 HB.out (IsS126.ge HI0.out) GE358.out⟩⟩
     ·rw [if_neg c21] at H
      exact absurd H (by simp)
   ·rw [if_neg c7] at H
    have c7b0 : decide (0 < x6_1) = false := decide_eq_false c7
    clear c7
    simp only [Option.some.injEq, Prod.mk.injEq] at H
    obtain ⟨rfl, rfl, rfl⟩ := H
    go_wp2
    go_ret
    exact ⟨_, zw, rq HO_5.out, by repeat (first | (with_reducible first | exact HI0.out | apply IsS126.alloc | apply IsS126.drewN | apply IsS126.drew | apply IsS126.set_1 | apply IsS126.set_2) | exact HI0.out), bw1 HB.out (IsS126.ge HI0.out), kq0 HK.out⟩

def spec_l1Size.f (l0 : List Int) (a1 : Int) : Option (Int) := if (wrap64 (3 + (wrap64 ((l0.length : Int) / 12)))) > a1 then (some a1) else (some (wrap64 (3 + (wrap64 ((l0.length : Int) / 12)))))
set_option maxHeartbeats 8000000 in
set_option maxRecDepth 100000 in
theorem spec_l1Size.calls (A0 : Option Addr) (c0 : Nat) (l0 : List Int) (a1 : Int) (r : Int) (w : World) (hr0 : Kd.C (Kd.int .u8) w A0 l0.length l0) (hc0 : l0.length ≤ c0) (h : spec_l1Size.f l0 a1 = some r) :
  Calls Try.prog 88 #[.slice A0 l0.length c0, .int .i64 a1] w fun e w' => e = .returned (.int .i64 r) ∧ Drawn0 w w' := by
 have HR0 := Ak hr0
 have HC0 := Ak hc0
 clear hr0 hc0
 have H : (if (wrap64 (3 + (wrap64 ((l0.length : Int) / 12)))) > a1 then (some a1) else (some (wrap64 (3 + (wrap64 ((l0.length : Int) / 12)))))) = some r := h
 clear h
 by_cases c3 : (wrap64 (3 + (wrap64 ((l0.length : Int) / 12)))) > a1
 ·rw [if_pos c3] at H
  have c3b0 : decide (a1 < (wrap64 (3 + (wrap64 ((l0.length : Int) / 12))))) = true := decide_eq_true c3
  clear c3
  obtain rfl := Option.some.inj H
  go_enter Try.func88, Try.ntmps88
  go_wp2
  go_ret
  exact ⟨by first | rfl | (simp; done) | (simp [*]; done), by repeat (first | exact Drawn0.refl _ | apply Drawn0.step)⟩
 ·rw [if_neg c3] at H
  have c3b0 : decide (a1 < (wrap64 (3 + (wrap64 ((l0.length : Int) / 12))))) = false := decide_eq_false c3
  clear c3
  obtain rfl := Option.some.inj H
  go_enter Try.func88, Try.ntmps88
  go_wp2
  go_ret
  exact ⟨by first | rfl | (simp; done) | (simp [*]; done), by repeat (first | exact Drawn0.refl _ | apply Drawn0.step)⟩

end Go.Proofs.Ytgmnphckgicadaa.PFnHulls
