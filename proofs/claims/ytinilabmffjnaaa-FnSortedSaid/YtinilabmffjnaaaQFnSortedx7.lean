/- The functions that the law FnSorted reaches, each with what it computes and its contract. -/
import Derived.Test.YtinilabmffjnaaaQFnSortedx0
import Derived.Test.YtinilabmffjnaaaQFnSortedx1
import Derived.Test.YtinilabmffjnaaaQFnSortedx2
import Derived.Test.YtinilabmffjnaaaQFnSortedx6
namespace Go.Proofs.Ytinilabmffjnaaa.PFnSorted
open Go.RowKit Go.Proofs.YtinilabmffjnaaaW.PrintWords Go.Proofs.YtinilabmffjnaaaW.PrintLast Go.Proofs.YtinilabmffjnaaaW.PrintMore
attribute [local go_sem] max2_int min2_int max_two min_two max_three min_three max_four min_four
set_option linter.unusedVariables false
set_option linter.unusedSimpArgs false

def spec_DrawCurveSort.l0 : Nat → List (S75) → Int → List Int → Int → Int → Option ((List (S75)))
 | 0, _, _, _, _, _ => none
 | k + 1, x4, x5, x207000, x207001, x207002 => if x5 > 0 then ((spec_l4Draw.f k x207000 x207001 x207002).bind fun bt214 => (if x4.length < 4398046511104 then (spec_DrawCurveSort.l0 k (x4 ++ [(⟨(⟨bt214.1, bt214.2.1⟩ : S73), (⟨bt214.2.2.1, bt214.2.2.2.1⟩ : S73)⟩ : S75)]) (wrap64 (x5 - 1)) x207000 bt214.2.2.2.2.1 bt214.2.2.2.2.2) else (none))) else ((spec_l1Once.f x207000 x207001 x207002 60).bind fun bt223 => (if bt223.1 = true then (if 501 ≤ 8796093022208 then (some (List.replicate 501 z75)) else (none)) else (some x4)))
def spec_DrawCurveSort.f (k : Nat) (l0 : List Int) : Option ((List (S75))) := (spec_l1New.f k l0).bind fun bt203 => ((spec_l1Size.f l0 20).bind fun t210 => ((spec_l1Below.f bt203.1 bt203.2.1 bt203.2.2 t210).bind fun bt211 => (spec_DrawCurveSort.l0 k (([] : List (S75))) bt211.1 bt203.1 bt211.2.1 bt211.2.2)))
set_option maxHeartbeats 8000000 in
set_option maxRecDepth 100000 in
theorem spec_DrawCurveSort.calls (k : Nat) (A0 : Option Addr) (c0 : Nat) (l0 : List Int) (r : List (S75)) (w : World) (hr0 : Kd.C (Kd.int .u8) w A0 l0.length l0) (hc0 : l0.length ≤ c0) (h : spec_DrawCurveSort.f k l0 = some r) :
  Calls Try.prog 42 #[.slice A0 l0.length c0] w fun e w' => ∃ v0_ : Value, e = .returned (v0_) ∧ Kd.R k75 75 w' w.heap.size (fun _ => True) v0_ r ∧ Below w.heap.size w w' := by
 have HR0 := Ak hr0
 have HC0 := Ak hc0
 clear hr0 hc0
 have HB := Ak (Below.refl w.heap.size w)
 have H : ((spec_l1New.f k l0).bind fun bt203 => ((spec_l1Size.f l0 20).bind fun t210 => ((spec_l1Below.f bt203.1 bt203.2.1 bt203.2.2 t210).bind fun bt211 => (spec_DrawCurveSort.l0 k (([] : List (S75))) bt211.1 bt203.1 bt211.2.1 bt211.2.2)))) = some r := h
 clear h
 replace H := Option.bind_eq_some_iff.mp H
 obtain ⟨⟨t203, t204, t205⟩, A20, H⟩ := H
 replace H : ((spec_l1Size.f l0 20).bind fun t210 => ((spec_l1Below.f t203 t204 t205 t210).bind fun bt211 => (spec_DrawCurveSort.l0 k (([] : List (S75))) bt211.1 t203 bt211.2.1 bt211.2.2))) = some r := H
 have A2 := Ak A20
 clear A20
 obtain ⟨y207, hy207⟩ : ∃ y_ : List (S75), y_ = (([] : List (S75))) := ⟨_, rfl⟩
 replace H : ((spec_l1Size.f l0 20).bind fun t210 => ((spec_l1Below.f t203 t204 t205 t210).bind fun bt211 => (spec_DrawCurveSort.l0 k y207 bt211.1 t203 bt211.2.1 bt211.2.2))) = some r := by first | (rw [hy207]; with_reducible exact H) | (have H2_ := (Option.bind_some _ _).symm.trans H; rw [hy207]; with_reducible exact H2_) | (have H2_ := (Option.bind_some _ _).symm.trans H; with_reducible exact H2_) | with_reducible exact H | (rw [hy207]; exact H) | exact H
 have Ny207 := Ak hy207
 clear hy207
 replace H := Option.bind_eq_some_iff.mp H
 obtain ⟨t210, A30, H⟩ := H
 replace H : ((spec_l1Below.f t203 t204 t205 t210).bind fun bt211 => (spec_DrawCurveSort.l0 k y207 bt211.1 t203 bt211.2.1 bt211.2.2)) = some r := H
 have A3 := Ak A30
 clear A30
 replace H := Option.bind_eq_some_iff.mp H
 obtain ⟨⟨t211, t212, t213⟩, A40, H⟩ := H
 replace H : (spec_DrawCurveSort.l0 k y207 t211 t203 t212 t213) = some r := H
 have A4 := Ak A40
 clear A40
 have H' := Ak H
 clear H
 go_enter Try.func42, Try.ntmps42
 go_wp2_with (first | ((with_reducible refine gate_callee (f := 53) rfl ?_); refine goesL_ (some 7) rfl rfl Try.func53 (by kernel_rfl) rfl #[.slice A0 l0.length c0] rfl gm ?_; (with_reducible refine (spec_l1New.calls k _ _ l0 t203 t204 t205 w _ ?side1 ?side2 ?side3 A2.out).mono ?_); (case side1 => repeat (first | (with_reducible first | exact HB.out | apply below_alloc | apply pw_below_drewN | apply below_drew1) | exact HB.out)); (case side2 => exact HR0.out); (case side3 => exact HC0.out); rintro e w5 ⟨g206, rfl, hi, hb, hb2⟩; refine ⟨_, rfl, ?_⟩; have n0_ := Ak (hb); have n1_ := Ak (hi); clear HB; have HB := n0_; have HI206 := n1_; clear n0_ n1_) | ((with_reducible refine gate_dst (N := 8) rfl ?_); refine Kd.R_lit k75 _ 75 ?hg (N := 8) ?hd (xs := ([] : List (S75))) (inner := []) (ok := fun _ => True) (okp := fun _ => True) ?hr ?hp (fun _ hk => hk) trivial (Below.refl _ _) (Nat.le_refl _) (by simp) ?_; (case hd => rfl); (case hg => rfl); (case hr => first | (go_simp; done) | (go_simp; rfl)); (case hp => exact (Reps.none _ _)); intro v208 w6 ho7 hb hg_ hnew_; clear hg_ hnew_; (first | rw [← Ny207.out] at ho7 | (simp only [Int.reduceToNat] at ho7; rw [← Ny207.out] at ho7)); have n0_ := Ak (Kd.R_lower ho7 (below_size (bw1 HB.out (IsS124.ge HI206.out)))); have n1_ := Ak (IsS124.below (by repeat (first | (with_reducible first | exact HI206.out | apply IsS124.alloc | apply IsS124.drewN | apply IsS124.drew | apply IsS124.set_1 | apply IsS124.set_2) | exact HI206.out)) hb); have n2_ := Ak (below_step (bw1 HB.out (IsS124.ge HI206.out)) hb); clear HI206; clear HB; have HO209 := n0_; have HI206 := n1_; have HB := n2_; clear n0_ n1_ n2_; clear hb ho7) | ((with_reducible refine gate_callee (f := 83) rfl ?_); refine goesL_ (some 11) rfl rfl Try.func83 (by kernel_rfl) rfl #[.slice A0 l0.length c0, .int .i64 20] rfl gm ?_; (with_reducible refine (spec_l1Size.calls _ _ l0 20 t210 _ ?side1 ?side2 A3.out).mono ?_); (case side1 => repeat (first | exact (Kd.C_below HR0.out HB.out) | (with_reducible refine Kd.C_alloc ?_ _) | (with_reducible refine Kd.C_drewN ?_ _) | (with_reducible refine Kd.C_drew ?_))); (case side2 => exact HC0.out); rintro e w' ⟨rfl, ⟨nd, rfl⟩⟩; refine ⟨_, rfl, ?_⟩) | ((with_reducible refine gate_callee (f := 56) rfl ?_); refine goesL_ (some 12) rfl rfl Try.func56 (by kernel_rfl) rfl #[.pointer (some ⟨g206, 0, none⟩), .int .i64 t210] rfl gm ?_; (with_reducible refine (spec_l1Below.calls g206 t203 t204 t205 t210 t211 t212 t213 w _ ?side1 ?side2 A4.out).mono ?_); (case side1 => repeat (first | (with_reducible first | exact HI206.out | apply IsS124.alloc | apply IsS124.drewN | apply IsS124.drew | apply IsS124.set_1 | apply IsS124.set_2) | exact HI206.out)); (case side2 => repeat (first | (with_reducible first | exact HB.out | apply below_alloc | apply pw_below_drewN | apply below_drew1 | refine below_set ?_ (IsS124.ge HI206.out)) | exact HB.out)); rintro e w8 ⟨rfl, hi, hb, hk⟩; refine ⟨_, rfl, ?_⟩; have n0_ := Ak (Kd.R_mono (Kd.R_keep (IsS124.apart (show IsS124 w _ g206 t203 t204 t205 from by repeat (first | (with_reducible first | exact HI206.out | apply IsS124.alloc | apply IsS124.drewN | apply IsS124.drew | apply IsS124.set_1 | apply IsS124.set_2) | exact HI206.out)) (rq HO209.out) (by decide)) hk (fun _ h => h.2)) (fun _ h => h.1)); have n1_ := Ak (hb); have n2_ := Ak (hi); clear HO209; clear HB; clear HI206; have HO209 := n0_; have HB := n1_; have HI206 := n2_; clear n0_ n1_ n2_))
 go_loopg [4, 5] k (fun kq v4 v5 w' => ∃ (x4_1 : List (S75)) (x5_1 : Int) (x207001_1 : Int) (x207002_1 : Int), v5 = .int .i64 x5_1 ∧ Aside0 (spec_DrawCurveSort.l0 kq x4_1 x5_1 t203 x207001_1 x207002_1 = some r) ∧ Aside0 (kq ≤ k) ∧ Aside0 (Kd.R k75 75 w' w.heap.size (fun _ => True) v4 x4_1) ∧ Aside0 (IsS124 w w' g206 t203 x207001_1 x207002_1) ∧ Aside0 (Below w.heap.size w w'))
 case atStart => exact ⟨(y207), (t211), (t212), (t213), (by first | rfl | (simp; done) | (simp [*]; done)), H', ⟨Nat.le_refl _⟩, ⟨rq HO209.out⟩, ⟨by repeat (first | (with_reducible first | exact HI206.out | apply IsS124.alloc | apply IsS124.drewN | apply IsS124.drew | apply IsS124.set_1 | apply IsS124.set_2) | exact HI206.out)⟩, ⟨bw1 HB.out (IsS124.ge HI206.out)⟩⟩
 case round =>
  clear H'
  obtain ⟨x4_1, x5_1, x207001_1, x207002_1, rfl, HA, HK1, HO_4, HI206, HB⟩ := hrel
  cases gk with
  | zero => exact absurd HA.out (by simp [spec_DrawCurveSort.l0])
  | succ k1 =>
   have H := HA.out
   clear HA
   simp only [spec_DrawCurveSort.l0] at H
   by_cases c9 : x5_1 > 0
   ·rw [if_pos c9] at H
    have c9b0 : decide (0 < x5_1) = true := decide_eq_true c9
    clear c9
    replace H := Option.bind_eq_some_iff.mp H
    obtain ⟨⟨t214, t215, t216, t217, t218, t219⟩, A100, H⟩ := H
    replace H : (if x4_1.length < 4398046511104 then (spec_DrawCurveSort.l0 k1 (x4_1 ++ [(⟨(⟨t214, t215⟩ : S73), (⟨t216, t217⟩ : S73)⟩ : S75)]) (wrap64 (x5_1 - 1)) t203 t218 t219) else (none)) = some r := H
    have A10 := Ak A100
    clear A100
    by_cases c11 : x4_1.length < 4398046511104
    ·rw [if_pos c11] at H
     have LMc11 := Ak c11
     clear c11
     obtain ⟨y220, hy220⟩ : ∃ y_ : List (S75), y_ = (x4_1 ++ [(⟨(⟨t214, t215⟩ : S73), (⟨t216, t217⟩ : S73)⟩ : S75)]) := ⟨_, rfl⟩
     replace H : (spec_DrawCurveSort.l0 k1 y220 (wrap64 (x5_1 - 1)) t203 t218 t219) = some r := by first | (rw [hy220]; with_reducible exact H) | (have H2_ := (Option.bind_some _ _).symm.trans H; rw [hy220]; with_reducible exact H2_) | (have H2_ := (Option.bind_some _ _).symm.trans H; with_reducible exact H2_) | with_reducible exact H | (rw [hy220]; exact H) | exact H
     have Ny220 := Ak hy220
     clear hy220
     have H' := Ak H
     clear H
     go_wp2_with (first | ((with_reducible refine gate_callee (f := 84) rfl ?_); refine goesL_ (some 19) rfl rfl Try.func84 (by kernel_rfl) rfl #[.pointer (some ⟨g206, 0, none⟩)] rfl gm ?_; (with_reducible refine (spec_l4Draw.calls k1 g206 t203 x207001_1 x207002_1 t214 t215 t216 t217 t218 t219 w _ ?side1 ?side2 A10.out).mono ?_); (case side1 => repeat (first | (with_reducible first | exact HI206.out | apply IsS124.alloc | apply IsS124.drewN | apply IsS124.drew | apply IsS124.set_1 | apply IsS124.set_2) | exact HI206.out)); (case side2 => repeat (first | (with_reducible first | exact HB.out | apply below_alloc | apply pw_below_drewN | apply below_drew1 | refine below_set ?_ (IsS124.ge HI206.out)) | exact HB.out)); rintro e w12 ⟨rfl, hi, hb, hk⟩; refine ⟨_, rfl, ?_⟩; have n0_ := Ak (Kd.R_mono (Kd.R_keep (IsS124.apart (show IsS124 w _ g206 t203 x207001_1 x207002_1 from by repeat (first | (with_reducible first | exact HI206.out | apply IsS124.alloc | apply IsS124.drewN | apply IsS124.drew | apply IsS124.set_1 | apply IsS124.set_2) | exact HI206.out)) (rq HO_4.out) (by decide)) hk (fun _ h => h.2)) (fun _ h => h.1)); have n1_ := Ak (hb); have n2_ := Ak (hi); clear HO_4; clear HB; clear HI206; have HO_4 := n0_; have HB := n1_; have HI206 := n2_; clear n0_ n1_ n2_) | ((with_reducible refine gate_builtin (b := .append) (xs := #[.tmp 17, .tmp 20]) rfl ?_); at_builtin; refine Kd.R_append k75 (w0 := w) w.heap.size rfl (.tmp 17) (.tmp 20) 66 75 (.agg #[(.int .i64 0), (.int .i64 0), (.int .i64 0), (.int .i64 0)]) 32 rfl Try.underlying66 info75 rfl (by decide) (by omega) u4 x4_1 (⟨(⟨t214, t215⟩ : S73), (⟨t216, t217⟩ : S73)⟩ : S75) [.int .i64 t214, .int .i64 t215, .int .i64 t216, .int .i64 t217] (fun _ => True) (fun _ => False) rfl rfl ?aP (fun _ hk => hk.elim) ?aF ?aO ?aB ?aS ?aL ?_; (case aP => exact k75_mkM _ _ _ (⟨(⟨t214, t215⟩ : S73), (⟨t216, t217⟩ : S73)⟩ : S75)); (case aB => exact (bw1 HB.out (IsS124.ge HI206.out))); (case aF => exact (fun _ _ => trivial)); (case aO => exact (rq HO_4.out)); (case aS => exact (below_size (bw1 HB.out (IsS124.ge HI206.out)))); (case aL => have := LMc11.out; omega); intro v221 w13 ho hb hg hat; rw [← Ny220.out] at ho; have n0_ := Ak (IsS124.grown (by repeat (first | (with_reducible first | exact HI206.out | apply IsS124.alloc | apply IsS124.drewN | apply IsS124.drew | apply IsS124.set_1 | apply IsS124.set_2) | exact HI206.out)) hg (IsS124.own_ne HI206.out HO_4.out (by decide))); have n1_ := Ak (hb); have n2_ := Ak (ho); clear HI206; clear HB; clear HO_4; have HI206 := n0_; have HB := n1_; have HO222 := n2_; clear n0_ n1_ n2_; clear ho hb hg hat))
     go_roundg k1
     case measure => have := HK1.out; omega
     case rel => exact ⟨(y220), (wrap64 (x5_1 - 1)), (t218), (t219), (by first | rfl | (simp; done) | (simp [*]; done)), H', ⟨by have := HK1.out; omega⟩, ⟨rq HO222.out⟩, ⟨by repeat (first | (with_reducible first | exact HI206.out | apply IsS124.alloc | apply IsS124.drewN | apply IsS124.drew | apply IsS124.set_1 | apply IsS124.set_2) | exact HI206.out)⟩, ⟨bw1 HB.out (IsS124.ge HI206.out)⟩⟩
    ·rw [if_neg c11] at H
     exact absurd H (by simp)
   ·rw [if_neg c9] at H
    have c9b0 : decide (0 < x5_1) = false := decide_eq_false c9
    clear c9
    replace H := Option.bind_eq_some_iff.mp H
    obtain ⟨⟨t223, t224, t225⟩, A140, H⟩ := H
    replace H : (if t223 = true then (if 501 ≤ 8796093022208 then (some (List.replicate 501 z75)) else (none)) else (some x4_1)) = some r := H
    have A14 := Ak A140
    clear A140
    by_cases c15 : t223 = true
    ·subst c15
     have H1 : (if 501 ≤ 8796093022208 then (some (List.replicate 501 z75)) else (none)) = some r := by rw [if_pos rfl] at H; exact H
     clear H
     have H := H1
     clear H1
     by_cases c16 : 501 ≤ 8796093022208
     ·rw [if_pos c16] at H
      have c16b0 := eq_true c16
      have c16b1 : decide (501 ≤ 8796093022208) = true := decide_eq_true c16
      clear c16
      obtain ⟨y226, hy226⟩ : ∃ y_ : List (S75), y_ = (List.replicate 501 z75) := ⟨_, rfl⟩
      replace H : (some y226) = some r := by first | (rw [hy226]; with_reducible exact H) | (have H2_ := (Option.bind_some _ _).symm.trans H; rw [hy226]; with_reducible exact H2_) | (have H2_ := (Option.bind_some _ _).symm.trans H; with_reducible exact H2_) | with_reducible exact H | (rw [hy226]; exact H) | exact H
      have Ny226 := Ak hy226
      clear hy226
      obtain rfl := Option.some.inj H
      go_wp2_with (first | ((with_reducible refine gate_callee (f := 85) rfl ?_); refine goesL_ (some 23) rfl rfl Try.func85 (by kernel_rfl) rfl #[.pointer (some ⟨g206, 0, none⟩), .int .i64 60] rfl gm ?_; (with_reducible refine (spec_l1Once.calls g206 t203 x207001_1 x207002_1 60 true t224 t225 w _ ?side1 ?side2 A14.out).mono ?_); (case side1 => repeat (first | (with_reducible first | exact HI206.out | apply IsS124.alloc | apply IsS124.drewN | apply IsS124.drew | apply IsS124.set_1 | apply IsS124.set_2) | exact HI206.out)); (case side2 => repeat (first | (with_reducible first | exact HB.out | apply below_alloc | apply pw_below_drewN | apply below_drew1 | refine below_set ?_ (IsS124.ge HI206.out)) | exact HB.out)); rintro e w17 ⟨rfl, hi, hb, hk⟩; refine ⟨_, rfl, ?_⟩; have n0_ := Ak (Kd.R_mono (Kd.R_keep (IsS124.apart (show IsS124 w _ g206 t203 x207001_1 x207002_1 from by repeat (first | (with_reducible first | exact HI206.out | apply IsS124.alloc | apply IsS124.drewN | apply IsS124.drew | apply IsS124.set_1 | apply IsS124.set_2) | exact HI206.out)) (rq HO_4.out) (by decide)) hk (fun _ h => h.2)) (fun _ h => h.1)); have n1_ := Ak (hb); have n2_ := Ak (hi); clear HO_4; clear HB; clear HI206; have HO_4 := n0_; have HB := n1_; have HI206 := n2_; clear n0_ n1_ n2_) | ((with_reducible refine gate_dst (N := 24) rfl ?_); refine Kd.R_make k75 _ 75 rfl (N := 24) rfl 66 _ _ rfl 501 rfl rfl Try.underlying66 (.agg #[(.int .i64 0), (.int .i64 0), (.int .i64 0), (.int .i64 0)]) 32 info75 rfl (by decide) (by omega) z75 (ok := fun _ => True) (okp := fun _ => True) (k75_mkM _ _ _ z75 ) (fun _ hk => hk) trivial (by omega) (by omega) (Below.refl _ _) (Nat.le_refl _) ?_; intro v227 w18 ho19 hb hg_ hnew_; clear hg_ hnew_; (first | rw [← Ny226.out] at ho19 | (simp only [Int.reduceToNat] at ho19; rw [← Ny226.out] at ho19)); have n0_ := Ak (Kd.R_elder' (rq HO_4.out) (Kd.R_base ho19) hb); have n1_ := Ak (Kd.R_lower (Kd.R_new' ho19 (Kd.R_lt (rq HO_4.out))) (below_size (bw1 HB.out (IsS124.ge HI206.out)))); have n2_ := Ak (IsS124.below (by repeat (first | (with_reducible first | exact HI206.out | apply IsS124.alloc | apply IsS124.drewN | apply IsS124.drew | apply IsS124.set_1 | apply IsS124.set_2) | exact HI206.out)) hb); have n3_ := Ak (below_step (bw1 HB.out (IsS124.ge HI206.out)) hb); clear HO_4; clear HI206; clear HB; have HO_4 := n0_; have HO228 := n1_; have HI206 := n2_; have HB := n3_; clear n0_ n1_ n2_ n3_; clear hb ho19))
      go_ret
      exact ⟨_, by first | rfl | (simp [errW_none, errW_some] <;> rfl) | (simp [*, errW_none, errW_some] <;> rfl), by (with_reducible repeat (first | apply Kd.R_alloc | apply Kd.R_drewN | apply Kd.R_drew)); exact Kd.R_mono HO228.out (fun _ hk => trivial), bw1 HB.out (IsS124.ge HI206.out)⟩
     ·rw [if_neg c16] at H
      exact absurd H (by simp)
    ·replace c15 := Bool.eq_false_iff.mpr c15
     subst c15
     have H1 : (some x4_1) = some r := by rw [if_neg (show ¬ (false = true) by decide)] at H; exact H
     clear H
     have H := H1
     clear H1
     obtain rfl := Option.some.inj H
     go_wp2_with (first | ((with_reducible refine gate_callee (f := 85) rfl ?_); refine goesL_ (some 23) rfl rfl Try.func85 (by kernel_rfl) rfl #[.pointer (some ⟨g206, 0, none⟩), .int .i64 60] rfl gm ?_; (with_reducible refine (spec_l1Once.calls g206 t203 x207001_1 x207002_1 60 false t224 t225 w _ ?side1 ?side2 A14.out).mono ?_); (case side1 => repeat (first | (with_reducible first | exact HI206.out | apply IsS124.alloc | apply IsS124.drewN | apply IsS124.drew | apply IsS124.set_1 | apply IsS124.set_2) | exact HI206.out)); (case side2 => repeat (first | (with_reducible first | exact HB.out | apply below_alloc | apply pw_below_drewN | apply below_drew1 | refine below_set ?_ (IsS124.ge HI206.out)) | exact HB.out)); rintro e w20 ⟨rfl, hi, hb, hk⟩; refine ⟨_, rfl, ?_⟩; have n0_ := Ak (Kd.R_mono (Kd.R_keep (IsS124.apart (show IsS124 w _ g206 t203 x207001_1 x207002_1 from by repeat (first | (with_reducible first | exact HI206.out | apply IsS124.alloc | apply IsS124.drewN | apply IsS124.drew | apply IsS124.set_1 | apply IsS124.set_2) | exact HI206.out)) (rq HO_4.out) (by decide)) hk (fun _ h => h.2)) (fun _ h => h.1)); have n1_ := Ak (hb); have n2_ := Ak (hi); clear HO_4; clear HB; clear HI206; have HO_4 := n0_; have HB := n1_; have HI206 := n2_; clear n0_ n1_ n2_))
     go_ret
     exact ⟨_, by first | rfl | (simp [errW_none, errW_some] <;> rfl) | (simp [*, errW_none, errW_some] <;> rfl), rq HO_4.out, bw1 HB.out (IsS124.ge HI206.out)⟩

def impl_inRange.f (a0 : Int) (a1 : Int) (a2 : Int) : Option (Bool) := if a0 ≥ a1 then (some (decide (a0 ≤ a2))) else (some false)
set_option maxHeartbeats 8000000 in
set_option maxRecDepth 100000 in
theorem impl_inRange.calls (a0 : Int) (a1 : Int) (a2 : Int) (r : Bool) (w : World) (h : impl_inRange.f a0 a1 a2 = some r) :
  Calls Try.prog 59 #[.int .i64 a0, .int .i64 a1, .int .i64 a2] w fun e w' => e = .returned (.bool r) ∧ Drawn0 w w' := by
 have H : (if a0 ≥ a1 then (some (decide (a0 ≤ a2))) else (some false)) = some r := h
 clear h
 by_cases c4 : a0 ≥ a1
 ·rw [if_pos c4] at H
  have c4b0 : decide (a1 ≤ a0) = true := decide_eq_true c4
  clear c4
  obtain rfl := Option.some.inj H
  go_enter Try.func59, Try.ntmps59
  go_wp2
  go_ret
  exact ⟨by first | rfl | (simp; done) | (simp [*]; done), by repeat (first | exact Drawn0.refl _ | apply Drawn0.step)⟩
 ·rw [if_neg c4] at H
  have c4b0 : decide (a1 ≤ a0) = false := decide_eq_false c4
  clear c4
  obtain rfl := Option.some.inj H
  go_enter Try.func59, Try.ntmps59
  go_wp2
  go_ret
  exact ⟨by first | rfl | (simp; done) | (simp [*]; done), by repeat (first | exact Drawn0.refl _ | apply Drawn0.step)⟩

def impl_isCoord.f (a0 : Int) : Option (Bool) := (impl_inRange.f a0 (-10000000) 10000000).bind fun t229 => (some t229)
set_option maxHeartbeats 8000000 in
set_option maxRecDepth 100000 in
theorem impl_isCoord.calls (a0 : Int) (r : Bool) (w : World) (h : impl_isCoord.f a0 = some r) :
  Calls Try.prog 127 #[.int .i64 a0] w fun e w' => e = .returned (.bool r) ∧ Drawn0 w w' := by
 have H : ((impl_inRange.f a0 (-10000000) 10000000).bind fun t229 => (some t229)) = some r := h
 clear h
 replace H := Option.bind_eq_some_iff.mp H
 obtain ⟨t229, A20, H⟩ := H
 replace H : (some t229) = some r := H
 have A2 := Ak A20
 clear A20
 obtain rfl := Option.some.inj H
 go_enter Try.func127, Try.ntmps127
 go_wp2_with (first | ((with_reducible refine gate_callee (f := 59) rfl ?_); refine goesL_ (some 4) rfl rfl Try.func59 (by kernel_rfl) rfl #[.int .i64 a0, .int .i64 (-10000000), .int .i64 10000000] rfl gm ?_; (with_reducible refine (impl_inRange.calls a0 (-10000000) 10000000 t229 _ A2.out).mono ?_); rintro e w' ⟨rfl, ⟨nd, rfl⟩⟩; refine ⟨_, rfl, ?_⟩))
 go_ret
 exact ⟨by first | rfl | (simp; done) | (simp [*]; done), by repeat (first | exact Drawn0.refl _ | apply Drawn0.step)⟩

def impl_PtOk.f (a0_0 : Int) (a0_1 : Int) : Option (Bool) := (impl_isCoord.f a0_0).bind fun t231 => (if t231 = true then ((impl_isCoord.f a0_1).bind fun t232 => (some t232)) else (some false))
set_option maxHeartbeats 8000000 in
set_option maxRecDepth 100000 in
theorem impl_PtOk.calls (a0_0 : Int) (a0_1 : Int) (r : Bool) (w : World) (h : impl_PtOk.f a0_0 a0_1 = some r) :
  Calls Try.prog 113 #[.agg #[.int .i64 a0_0, .int .i64 a0_1]] w fun e w' => e = .returned (.bool r) ∧ Below w.heap.size w w' := by
 have hu73 := Try.underlying73
 have HB := Ak (Below.refl w.heap.size w)
 have H : ((impl_isCoord.f a0_0).bind fun t231 => (if t231 = true then ((impl_isCoord.f a0_1).bind fun t232 => (some t232)) else (some false))) = some r := h
 clear h
 replace H := Option.bind_eq_some_iff.mp H
 obtain ⟨t231, A20, H⟩ := H
 replace H : (if t231 = true then ((impl_isCoord.f a0_1).bind fun t232 => (some t232)) else (some false)) = some r := H
 have A2 := Ak A20
 clear A20
 by_cases c3 : t231 = true
 ·subst c3
  have H1 : ((impl_isCoord.f a0_1).bind fun t232 => (some t232)) = some r := by rw [if_pos rfl] at H; exact H
  clear H
  have H := H1
  clear H1
  replace H := Option.bind_eq_some_iff.mp H
  obtain ⟨t232, A40, H⟩ := H
  replace H : (some t232) = some r := H
  have A4 := Ak A40
  clear A40
  obtain rfl := Option.some.inj H
  go_enter Try.func113, Try.ntmps113
  go_wp2_with (first | ((with_reducible refine gate_dst (N := 1) rfl ?_); refine box_event ?hg (N := 1) ?hd (cs := #[.int .i64 a0_0, .int .i64 a0_1]) (t := 73) ?hr ?_; (case hd => rfl); (case hg => rfl); (case hr => first | (go_simp; done) | (go_simp; rfl)); intro gb230 hg w5 hbox hb; have n0_ := Ak (below_step (bw HB.out) hb); have n1_ := Ak (hbox); have n2_ := Ak ((by rw [hg]; exact (below_size (bw HB.out)) : w.heap.size ≤ gb230)); have n3_ := Ak ((by rw [hg]; exact (below_size (bw HB.out)) : w.heap.size ≤ gb230)); clear HB; have HB := n0_; have BK230 := n1_; have GW230 := n2_; have GE230 := n3_; clear n0_ n1_ n2_ n3_; clear hb hbox hg; have hcz6_0 : w5.cell? ⟨gb230, 0, none⟩ = some (.int .i64 a0_0) := (blk_cell BK230.out 0).trans rfl; have hcz6_1 : w5.cell? ⟨gb230, 1, none⟩ = some (.int .i64 a0_1) := (blk_cell BK230.out 1).trans rfl; have hfz6_0 := blk_frozen BK230.out 0; have hfz6_1 := blk_frozen BK230.out 1) | ((with_reducible refine gate_callee (f := 127) rfl ?_); refine goesL_ (some 5) rfl rfl Try.func127 (by kernel_rfl) rfl #[.int .i64 a0_0] rfl gm ?_; (with_reducible refine (impl_isCoord.calls a0_0 true _ A2.out).mono ?_); rintro e w' ⟨rfl, ⟨nd, rfl⟩⟩; refine ⟨_, rfl, ?_⟩) | (go_at_call 127; (with_reducible refine (impl_isCoord.calls a0_1 t232 _ A4.out).mono ?_); rintro e w' ⟨rfl, ⟨nd, rfl⟩⟩))
  go_ret
  exact ⟨by first | rfl | (simp [errW_none, errW_some] <;> rfl) | (simp [*, errW_none, errW_some] <;> rfl), bw1 HB.out GE230.out⟩
 ·replace c3 := Bool.eq_false_iff.mpr c3
  subst c3
  have H1 : (some false) = some r := by rw [if_neg (show ¬ (false = true) by decide)] at H; exact H
  clear H
  have H := H1
  clear H1
  obtain rfl := Option.some.inj H
  go_enter Try.func113, Try.ntmps113
  go_wp2_with (first | ((with_reducible refine gate_dst (N := 1) rfl ?_); refine box_event ?hg (N := 1) ?hd (cs := #[.int .i64 a0_0, .int .i64 a0_1]) (t := 73) ?hr ?_; (case hd => rfl); (case hg => rfl); (case hr => first | (go_simp; done) | (go_simp; rfl)); intro gb230 hg w7 hbox hb; have n0_ := Ak (below_step (bw HB.out) hb); have n1_ := Ak (hbox); have n2_ := Ak ((by rw [hg]; exact (below_size (bw HB.out)) : w.heap.size ≤ gb230)); have n3_ := Ak ((by rw [hg]; exact (below_size (bw HB.out)) : w.heap.size ≤ gb230)); clear HB; have HB := n0_; have BK230 := n1_; have GW230 := n2_; have GE230 := n3_; clear n0_ n1_ n2_ n3_; clear hb hbox hg; have hcz8_0 : w7.cell? ⟨gb230, 0, none⟩ = some (.int .i64 a0_0) := (blk_cell BK230.out 0).trans rfl; have hcz8_1 : w7.cell? ⟨gb230, 1, none⟩ = some (.int .i64 a0_1) := (blk_cell BK230.out 1).trans rfl; have hfz8_0 := blk_frozen BK230.out 0; have hfz8_1 := blk_frozen BK230.out 1) | ((with_reducible refine gate_callee (f := 127) rfl ?_); refine goesL_ (some 5) rfl rfl Try.func127 (by kernel_rfl) rfl #[.int .i64 a0_0] rfl gm ?_; (with_reducible refine (impl_isCoord.calls a0_0 false _ A2.out).mono ?_); rintro e w' ⟨rfl, ⟨nd, rfl⟩⟩; refine ⟨_, rfl, ?_⟩))
  go_ret
  exact ⟨by first | rfl | (simp [errW_none, errW_some] <;> rfl) | (simp [*, errW_none, errW_some] <;> rfl), bw1 HB.out GE230.out⟩

end Go.Proofs.Ytinilabmffjnaaa.PFnSorted
