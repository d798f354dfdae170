/- The functions that the law FnHulls reaches, each with what it computes and its contract. -/
import Derived.Test.YtgmnphckgicadaaQFnHullsx0
import Derived.Test.YtgmnphckgicadaaQFnHullsx7
import Derived.Test.YtgmnphckgicadaaQFnHullsx17
import Derived.Test.YtgmnphckgicadaaQFnHullsx18
import Derived.Test.YtgmnphckgicadaaQFnHullsx20
namespace Go.Proofs.Ytgmnphckgicadaa.PFnHulls
open Go.RowKit Go.Proofs.YtgmnphckgicadaaW.PrintWords Go.Proofs.YtgmnphckgicadaaW.PrintLast Go.Proofs.YtgmnphckgicadaaW.PrintMore
attribute [local go_sem] max2_int min2_int max_two min_two max_three min_three max_four min_four
set_option linter.unusedVariables false
set_option linter.unusedSimpArgs false

def spec_DrawHull.f (k : Nat) (l0 : List Int) : Option ((List (S67))) := (spec_l1New.f k l0).bind fun bt368 => ((spec_l1Once.f bt368.1 bt368.2.1 bt368.2.2 60).bind fun bt372 => (if bt372.1 = true then ((spec_l1Below.f bt368.1 bt372.2.1 bt372.2.2 2).bind fun bt375 => (if 0 ≤ (wrap64 (500 + bt375.1)) then (if (wrap64 (500 + bt375.1) : Int).toNat ≤ 17592186044416 then (some (List.replicate (wrap64 (500 + bt375.1) : Int).toNat z67)) else (none)) else (none))) else ((spec_l1Size.f l0 30).bind fun t381 => ((spec_l9Draw.f k bt368.1 bt372.2.1 bt372.2.2 t381).bind fun bt382 => (some bt382.1)))))
set_option maxHeartbeats 8000000 in
set_option maxRecDepth 100000 in
theorem spec_DrawHull.calls (k : Nat) (A0 : Option Addr) (c0 : Nat) (l0 : List Int) (r : List (S67)) (w : World) (hr0 : Kd.C (Kd.int .u8) w A0 l0.length l0) (hc0 : l0.length ≤ c0) (h : spec_DrawHull.f k l0 = some r) :
  Calls Try.prog 38 #[.slice A0 l0.length c0] w fun e w' => ∃ v0_ : Value, e = .returned (v0_) ∧ Kd.R k67 67 w' w.heap.size (fun _ => True) v0_ r ∧ Below w.heap.size w w' := by
 have HR0 := Ak hr0
 have HC0 := Ak hc0
 clear hr0 hc0
 have HB := Ak (Below.refl w.heap.size w)
 have H : ((spec_l1New.f k l0).bind fun bt368 => ((spec_l1Once.f bt368.1 bt368.2.1 bt368.2.2 60).bind fun bt372 => (if bt372.1 = true then ((spec_l1Below.f bt368.1 bt372.2.1 bt372.2.2 2).bind fun bt375 => (if 0 ≤ (wrap64 (500 + bt375.1)) then (if (wrap64 (500 + bt375.1) : Int).toNat ≤ 17592186044416 then (some (List.replicate (wrap64 (500 + bt375.1) : Int).toNat z67)) else (none)) else (none))) else ((spec_l1Size.f l0 30).bind fun t381 => ((spec_l9Draw.f k bt368.1 bt372.2.1 bt372.2.2 t381).bind fun bt382 => (some bt382.1)))))) = some r := h
 clear h
 replace H := Option.bind_eq_some_iff.mp H
 obtain ⟨⟨t368, t369, t370⟩, A20, H⟩ := H
 replace H : ((spec_l1Once.f t368 t369 t370 60).bind fun bt372 => (if bt372.1 = true then ((spec_l1Below.f t368 bt372.2.1 bt372.2.2 2).bind fun bt375 => (if 0 ≤ (wrap64 (500 + bt375.1)) then (if (wrap64 (500 + bt375.1) : Int).toNat ≤ 17592186044416 then (some (List.replicate (wrap64 (500 + bt375.1) : Int).toNat z67)) else (none)) else (none))) else ((spec_l1Size.f l0 30).bind fun t381 => ((spec_l9Draw.f k t368 bt372.2.1 bt372.2.2 t381).bind fun bt382 => (some bt382.1))))) = some r := H
 have A2 := Ak A20
 clear A20
 replace H := Option.bind_eq_some_iff.mp H
 obtain ⟨⟨t372, t373, t374⟩, A30, H⟩ := H
 replace H : (if t372 = true then ((spec_l1Below.f t368 t373 t374 2).bind fun bt375 => (if 0 ≤ (wrap64 (500 + bt375.1)) then (if (wrap64 (500 + bt375.1) : Int).toNat ≤ 17592186044416 then (some (List.replicate (wrap64 (500 + bt375.1) : Int).toNat z67)) else (none)) else (none))) else ((spec_l1Size.f l0 30).bind fun t381 => ((spec_l9Draw.f k t368 t373 t374 t381).bind fun bt382 => (some bt382.1)))) = some r := H
 have A3 := Ak A30
 clear A30
 by_cases c4 : t372 = true
 ·subst c4
  have H1 : ((spec_l1Below.f t368 t373 t374 2).bind fun bt375 => (if 0 ≤ (wrap64 (500 + bt375.1)) then (if (wrap64 (500 + bt375.1) : Int).toNat ≤ 17592186044416 then (some (List.replicate (wrap64 (500 + bt375.1) : Int).toNat z67)) else (none)) else (none))) = some r := by rw [if_pos rfl] at H; exact H
  clear H
  have H := H1
  clear H1
  replace H := Option.bind_eq_some_iff.mp H
  obtain ⟨⟨t375, t376, t377⟩, A50, H⟩ := H
  replace H : (if 0 ≤ (wrap64 (500 + t375)) then (if (wrap64 (500 + t375) : Int).toNat ≤ 17592186044416 then (some (List.replicate (wrap64 (500 + t375) : Int).toNat z67)) else (none)) else (none)) = some r := H
  have A5 := Ak A50
  clear A50
  obtain ⟨ji6, hji6⟩ : ∃ j_ : Int, (wrap64 (500 + t375)) = j_ := ⟨_, rfl⟩
  replace H : (if 0 ≤ (ji6) then (if (ji6 : Int).toNat ≤ 17592186044416 then (some (List.replicate (ji6 : Int).toNat z67)) else (none)) else (none)) = some r := by first | (rw [hji6] at H; exact H) | (simp only [hji6] at H ⊢; exact H)
  (try rw [hji6] at A2)
  (try rw [hji6] at A3)
  (try rw [hji6] at A5)
  have hji6w : (IntKind.i64.wrap (500 + t375)) = ji6 := (i64_w _).trans hji6
  by_cases c7 : 0 ≤ (ji6)
  ·rw [if_pos c7] at H
   have c7b0 := eq_true c7
   have c7b1 : decide (0 ≤ (ji6)) = true := decide_eq_true c7
   clear c7
   by_cases c8 : (ji6 : Int).toNat ≤ 17592186044416
   ·rw [if_pos c8] at H
    have c8b0 := eq_true c8
    have c8b1 : decide ((ji6 : Int).toNat ≤ 17592186044416) = true := decide_eq_true c8
    clear c8
    obtain ⟨y378, hy378⟩ : ∃ y_ : List (S67), y_ = (List.replicate (ji6 : Int).toNat z67) := ⟨_, rfl⟩
    replace H : (some y378) = some r := by first | (rw [hy378]; with_reducible exact H) | (have H2_ := (Option.bind_some _ _).symm.trans H; rw [hy378]; with_reducible exact H2_) | (have H2_ := (Option.bind_some _ _).symm.trans H; with_reducible exact H2_) | with_reducible exact H | (rw [hy378]; exact H) | exact H
    have Ny378 := Ak hy378
    clear hy378
    obtain rfl := Option.some.inj H
    go_enter Try.func38, Try.ntmps38
    go_wp2_with (first | ((with_reducible refine gate_callee (f := 61) rfl ?_); refine goesL_ (some 5) rfl rfl Try.func61 (by kernel_rfl) rfl #[.slice A0 l0.length c0] rfl gm ?_; (with_reducible refine (spec_l1New.calls k _ _ l0 t368 t369 t370 w _ ?side1 ?side2 ?side3 A2.out).mono ?_); (case side1 => repeat (first | (with_reducible first | exact HB.out | apply below_alloc | apply pw_below_drewN | apply below_drew1) | exact HB.out)); (case side2 => exact HR0.out); (case side3 => exact HC0.out); rintro e w9 ⟨g371, rfl, hi, hb, hb2⟩; refine ⟨_, rfl, ?_⟩; replace HB := Ak (hb); have HI371 := Ak (hi)) | ((with_reducible refine gate_callee (f := 85) rfl ?_); refine goesL_ (some 7) rfl rfl Try.func85 (by kernel_rfl) rfl #[.pointer (some ⟨g371, 0, none⟩), .int .i64 60] rfl gm ?_; (with_reducible refine (spec_l1Once.calls g371 t368 t369 t370 60 true t373 t374 w _ ?side1 ?side2 A3.out).mono ?_); (case side1 => repeat (first | (with_reducible first | exact HI371.out | apply IsS126.alloc | apply IsS126.drewN | apply IsS126.drew | apply IsS126.set_1 | apply IsS126.set_2) | exact HI371.out)); (case side2 => repeat (first | (with_reducible first | exact HB.out | apply below_alloc | apply pw_below_drewN | apply below_drew1 | refine below_set ?_ (IsS126.ge HI371.out)) | exact HB.out)); rintro e w10 ⟨rfl, hi, hb, hk⟩; refine ⟨_, rfl, ?_⟩; replace HB := Ak (hb); replace HI371 := Ak (hi)) | ((with_reducible refine gate_callee (f := 86) rfl ?_); refine goesL_ (some 9) rfl rfl Try.func86 (by kernel_rfl) rfl #[.pointer (some ⟨g371, 0, none⟩), .int .i64 2] rfl gm ?_; (with_reducible refine (spec_l1Below.calls g371 t368 t373 t374 2 t375 t376 t377 w _ ?side1 ?side2 A5.out).mono ?_); (case side1 => repeat (first | (with_reducible first | exact HI371.out | apply IsS126.alloc | apply IsS126.drewN | apply IsS126.drew | apply IsS126.set_1 | apply IsS126.set_2) | exact HI371.out)); (case side2 => repeat (first | (with_reducible first | exact HB.out | apply below_alloc | apply pw_below_drewN | apply below_drew1 | refine below_set ?_ (IsS126.ge HI371.out)) | exact HB.out)); rintro e w11 ⟨rfl, hi, hb, hk⟩; refine ⟨_, rfl, ?_⟩; replace HB := Ak (hb); replace HI371 := Ak (hi)) | ((with_reducible refine gate_dst (N := 11) rfl ?_); refine Kd.R_make k67 _ 67 rfl (N := 11) rfl 58 _ _ rfl ji6 rfl rfl Try.underlying58 (.agg #[(.int .i64 0), (.int .i64 0)]) 16 info67 rfl (by decide) (by omega) z67 (ok := fun _ => True) (okp := fun _ => True) (k67_mkM _ _ _ z67 ) (fun _ hk => hk) trivial (of_decide_eq_true (by first | (with_reducible assumption) | assumption)) (Nat.le_trans (Nat.mul_le_mul_right _ (of_decide_eq_true (by first | (with_reducible assumption) | assumption) : ji6.toNat ≤ 17592186044416)) (by omega)) (Below.refl _ _) (Nat.le_refl _) ?_; intro v379 w12 ho13 hb hg_ hnew_; clear hg_ hnew_; (first | rw [← Ny378.out] at ho13 | (simp only [Int.reduceToNat] at ho13; rw [← Ny378.out] at ho13)); have HO380 := Ak (Kd.R_lower ho13 (below_size (bw1 HB.out (IsS126.ge HI371.out)))); replace HB := Ak (below_step (bw1 HB.out (IsS126.ge HI371.out)) hb); replace HI371 := Ak (IsS126.below (by repeat (first | (with_reducible first | exact HI371.out | apply IsS126.alloc | apply IsS126.drewN | apply IsS126.drew | apply IsS126.set_1 | apply IsS126.set_2) | exact HI371.out)) hb); clear hb ho13))
    go_ret
    exact ⟨_, by first | rfl | (simp [errW_none, errW_some] <;> rfl) | (simp only [← hji6]; first | rfl | (simp [errW_none, errW_some] <;> rfl)) | (simp [*, errW_none, errW_some] <;> rfl), rq HO380.out, bw1 HB.out (IsS126.ge HI371.out)⟩
   ·rw [if_neg c8] at H
    exact absurd H (by simp)
  ·rw [if_neg c7] at H
   exact absurd H (by simp)
 ·replace c4 := Bool.eq_false_iff.mpr c4
  subst c4
  have H1 : ((spec_l1Size.f l0 30).bind fun t381 => ((spec_l9Draw.f k t368 t373 t374 t381).bind fun bt382 => (some bt382.1))) = some r := by rw [if_neg (show ¬ (false = true) by decide)] at H; exact H
  clear H
  have H := H1
  clear H1
  replace H := Option.bind_eq_some_iff.mp H
  obtain ⟨t381, A140, H⟩ := H
  have A14 := Ak A140
  clear A140
  replace H := Option.bind_eq_some_iff.mp H
  obtain ⟨⟨t382, t385, t386⟩, A150, H⟩ := H
  (try dsimp only at H)
  have A15 := Ak A150
  clear A150
  obtain rfl := Option.some.inj H
  go_enter Try.func38, Try.ntmps38
  go_wp2_with (first | ((with_reducible refine gate_callee (f := 61) rfl ?_); refine goesL_ (some 5) rfl rfl Try.func61 (by kernel_rfl) rfl #[.slice A0 l0.length c0] rfl gm ?_; (with_reducible refine (spec_l1New.calls k _ _ l0 t368 t369 t370 w _ ?side1 ?side2 ?side3 A2.out).mono ?_); (case side1 => repeat (first | (with_reducible first | exact HB.out | apply below_alloc | apply pw_below_drewN | apply below_drew1) | exact HB.out)); (case side2 => exact HR0.out); (case side3 => exact HC0.out); rintro e w16 ⟨g371, rfl, hi, hb, hb2⟩; refine ⟨_, rfl, ?_⟩; replace HB := Ak (hb); have HI371 := Ak (hi)) | ((with_reducible refine gate_callee (f := 85) rfl ?_); refine goesL_ (some 7) rfl rfl Try.func85 (by kernel_rfl) rfl #[.pointer (some ⟨g371, 0, none⟩), .int .i64 60] rfl gm ?_; (with_reducible refine (spec_l1Once.calls g371 t368 t369 t370 60 false t373 t374 w _ ?side1 ?side2 A3.out).mono ?_); (case side1 => repeat (first | (with_reducible first | exact HI371.out | apply IsS126.alloc | apply IsS126.drewN | apply IsS126.drew | apply IsS126.set_1 | apply IsS126.set_2) | exact HI371.out)); (case side2 => repeat (first | (with_reducible first | exact HB.out | apply below_alloc | apply pw_below_drewN | apply below_drew1 | refine below_set ?_ (IsS126.ge HI371.out)) | exact HB.out)); rintro e w17 ⟨rfl, hi, hb, hk⟩; refine ⟨_, rfl, ?_⟩; replace HB := Ak (hb); replace HI371 := Ak (hi)) | ((with_reducible refine gate_callee (f := 88) rfl ?_); refine goesL_ (some 14) rfl rfl Try.func88 (by kernel_rfl) rfl #[.slice A0 l0.length c0, .int .i64 30] rfl gm ?_; (with_reducible refine (spec_l1Size.calls _ _ l0 30 t381 _ ?side1 ?side2 A14.out).mono ?_); (case side1 => exact zq (Kd.C_below HR0.out HB.out)); (case side2 => exact HC0.out); rintro e w' ⟨rfl, ⟨nd, rfl⟩⟩; refine ⟨_, rfl, ?_⟩) | ((with_reducible refine gate_callee (f := 87) rfl ?_); refine goesL_ (some 15) rfl rfl Try.func87 (by kernel_rfl) rfl #[.pointer (some ⟨g371, 0, none⟩), .int .i64 t381] rfl gm ?_; (with_reducible refine (spec_l9Draw.calls k g371 t368 t373 t374 t381 t382 t385 t386 w _ ?side1 ?side2 A15.out).mono ?_); (case side1 => repeat (first | (with_reducible first | exact HI371.out | apply IsS126.alloc | apply IsS126.drewN | apply IsS126.drew | apply IsS126.set_1 | apply IsS126.set_2) | exact HI371.out)); (case side2 => repeat (first | (with_reducible first | exact HB.out | apply below_alloc | apply pw_below_drewN | apply below_drew1 | refine below_set ?_ (IsS126.ge HI371.out)) | exact HB.out)); rintro e w18 ⟨v383, rfl, ho0, hi, hb, hk⟩; refine ⟨_, rfl, ?_⟩; have HO384 := Ak (Kd.R_lower ho0 (below_size (bw1 HB.out (IsS126.ge HI371.out)))); replace HB := Ak (hb); replace HI371 := Ak (hi)))
  go_ret
  exact ⟨_, zw, rq HO384.out, bw1 HB.out (IsS126.ge HI371.out)⟩

def impl_taken.f (a0_0 : Int) (a0_1 : Int) : Option (Int × Int) := (impl_PtOk.f a0_0 a0_1).bind fun t389 => (if t389 = true then (some (a0_0, a0_1)) else (some (0, 0)))
set_option maxHeartbeats 8000000 in
set_option maxRecDepth 100000 in
theorem impl_taken.calls (a0_0 : Int) (a0_1 : Int) (r1 : Int) (r2 : Int) (w : World) (h : impl_taken.f a0_0 a0_1 = some (r1, r2)) :
  Calls Try.prog 90 #[.agg #[.int .i64 a0_0, .int .i64 a0_1]] w fun e w' => e = .returned (.agg #[.int .i64 r1, .int .i64 r2]) ∧ Below w.heap.size w w' := by
 have hu67 := Try.underlying67
 have HB := Ak (Below.refl w.heap.size w)
 have H : ((impl_PtOk.f a0_0 a0_1).bind fun t389 => (if t389 = true then (some (a0_0, a0_1)) else (some (0, 0)))) = some (r1, r2) := h
 clear h
 replace H := Option.bind_eq_some_iff.mp H
 obtain ⟨t389, A20, H⟩ := H
 have A2 := Ak A20
 clear A20
 by_cases c3 : t389 = true
 ·subst c3
  have H1 : (some (a0_0, a0_1)) = some (r1, r2) := by rw [if_pos rfl] at H; exact H
  clear H
  have H := H1
  clear H1
  simp only [Option.some.injEq, Prod.mk.injEq] at H
  obtain ⟨rfl, rfl⟩ := H
  go_enter Try.func90, Try.ntmps90
  go_wp2_with (first | ((with_reducible refine gate_dst (N := 1) rfl ?_); refine box_event ?hg (N := 1) ?hd (cs := #[.int .i64 a0_0, .int .i64 a0_1]) (t := 67) ?hr ?_; (case hd => rfl); (case hg => rfl); (case hr => first | (go_simp; done) | (go_simp; rfl)); intro gb387 hg w4 hbox hb; have BK387 := Ak (hbox); have GW387 := Ak ((zb hg (bw HB.out))); have GE387 := Ak ((zb hg (bw HB.out))); replace HB := Ak (below_step (bw HB.out) hb); clear hb hbox hg) | ((with_reducible refine gate_dst (N := 2) rfl ?_); refine box_event ?hg (N := 2) ?hd (cs := #[.int .i64 0, .int .i64 0]) (t := 67) ?hr ?_; (case hd => rfl); (case hg => rfl); (case hr => first | (go_simp; done) | (go_simp; rfl)); intro gb388 hg w5 hbox hb; have BK388 := Ak (hbox); have GW388 := Ak ((zb hg (bw1 HB.out GE387.out))); have GE388 := Ak ((zb hg (bw1 HB.out GE387.out))); replace HB := Ak (below_step (bw1 HB.out GE387.out) hb); have NB387_388 := Ak ((zl hg (bq BK387.out))); have NB388_387 := Ak ((zm hg (bq BK387.out))); replace BK387 := Ak (blk_below (bq BK387.out) hb); clear hb hbox hg; have hnb6 := NB387_388.out; have hnc6 := NB388_387.out; have hcz7_0 := zk0 BK387.out; have hcz7_1 := zk1 BK387.out; have hfz7_0 := blk_frozen BK387.out 0; have hfz7_1 := blk_frozen BK387.out 1) | ((with_reducible refine gate_callee (f := 118) rfl ?_); refine goesL_ (some 4) rfl rfl Try.func118 (by kernel_rfl) rfl #[.agg #[.int .i64 a0_0, .int .i64 a0_1]] rfl gm ?_; (with_reducible refine (impl_PtOk.calls a0_0 a0_1 true _ A2.out).mono ?_); rintro e w8 ⟨rfl, hb⟩; refine ⟨_, rfl, ?_⟩; replace BK387 := Ak (blk_below (bq BK387.out) hb); replace BK388 := Ak (blk_below (bq BK388.out) hb); replace HB := Ak (below_step (bw2 HB.out GE387.out GE388.out) hb); have hcz9_0 := zk0 BK387.out; have hcz9_1 := zk1 BK387.out; have hfz9_0 := blk_frozen BK387.out 0; have hfz9_1 := blk_frozen BK387.out 1; have hcz10_0 := zk0 BK388.out; have hcz10_1 := zk1 BK388.out; have hfz10_0 := blk_frozen BK388.out 0; have hfz10_1 := blk_frozen BK388.out 1))
  refine bodyPost_ret (results_cell_row rfl _ _ gb388 67 #[.int .i64 a0_0, .int .i64 a0_1] (0, 0) _ rfl (by refine bq ?_; refine blk_put (cs := #[.int .i64 a0_0, .int .i64 0]) ?_ 1 _ rfl; refine bq ?_; refine blk_put (cs := #[.int .i64 0, .int .i64 0]) ?_ 0 _ rfl; exact bq BK388.out) Try.underlying67 rfl (by kernel_rfl)) rfl ?_
  exact ⟨zw, bw2 HB.out GE387.out GE388.out⟩
 ·replace c3 := Bool.eq_false_iff.mpr c3
  subst c3
  have H1 : (some (0, 0)) = some (r1, r2) := by rw [if_neg (show ¬ (false = true) by decide)] at H; exact H
  clear H
  have H := H1
  clear H1
  simp only [Option.some.injEq, Prod.mk.injEq] at H
  obtain ⟨rfl, rfl⟩ := H
  go_enter Try.func90, Try.ntmps90
  go_wp2_with (first | ((with_reducible refine gate_dst (N := 1) rfl ?_); refine box_event ?hg (N := 1) ?hd (cs := #[.int .i64 a0_0, .int .i64 a0_1]) (t := 67) ?hr ?_; (case hd => rfl); (case hg => rfl); (case hr => first | (go_simp; done) | (go_simp; rfl)); intro gb387 hg w11 hbox hb; have BK387 := Ak (hbox); have GW387 := Ak ((zb hg (bw HB.out))); have GE387 := Ak ((zb hg (bw HB.out))); replace HB := Ak (below_step (bw HB.out) hb); clear hb hbox hg) | ((with_reducible refine gate_dst (N := 2) rfl ?_); refine box_event ?hg (N := 2) ?hd (cs := #[.int .i64 0, .int .i64 0]) (t := 67) ?hr ?_; (case hd => rfl); (case hg => rfl); (case hr => first | (go_simp; done) | (go_simp; rfl)); intro gb388 hg w12 hbox hb; have BK388 := Ak (hbox); have GW388 := Ak ((zb hg (bw1 HB.out GE387.out))); have GE388 := Ak ((zb hg (bw1 HB.out GE387.out))); replace HB := Ak (below_step (bw1 HB.out GE387.out) hb); have NB387_388 := Ak ((zl hg (bq BK387.out))); have NB388_387 := Ak ((zm hg (bq BK387.out))); replace BK387 := Ak (blk_below (bq BK387.out) hb); clear hb hbox hg; have hnb13 := NB387_388.out; have hnc13 := NB388_387.out; have hcz14_0 := zk0 BK387.out; have hcz14_1 := zk1 BK387.out; have hfz14_0 := blk_frozen BK387.out 0; have hfz14_1 := blk_frozen BK387.out 1) | ((with_reducible refine gate_callee (f := 118) rfl ?_); refine goesL_ (some 4) rfl rfl Try.func118 (by kernel_rfl) rfl #[.agg #[.int .i64 a0_0, .int .i64 a0_1]] rfl gm ?_; (with_reducible refine (impl_PtOk.calls a0_0 a0_1 false _ A2.out).mono ?_); rintro e w15 ⟨rfl, hb⟩; refine ⟨_, rfl, ?_⟩; replace BK387 := Ak (blk_below (bq BK387.out) hb); replace BK388 := Ak (blk_below (bq BK388.out) hb); replace HB := Ak (below_step (bw2 HB.out GE387.out GE388.out) hb); have hcz16_0 := zk0 BK388.out; have hcz16_1 := zk1 BK388.out; have hfz16_0 := blk_frozen BK388.out 0; have hfz16_1 := blk_frozen BK388.out 1))
  refine bodyPost_ret (results_cell_row rfl _ _ gb388 67 #[.int .i64 0, .int .i64 0] (0, 0) _ rfl (by refine bq ?_; refine blk_put (cs := #[.int .i64 0, .int .i64 0]) ?_ 1 _ rfl; refine bq ?_; refine blk_put (cs := #[.int .i64 0, .int .i64 0]) ?_ 0 _ rfl; exact bq BK388.out) Try.underlying67 rfl (by kernel_rfl)) rfl ?_
  exact ⟨zw, bw2 HB.out GE387.out GE388.out⟩

end Go.Proofs.Ytgmnphckgicadaa.PFnHulls
