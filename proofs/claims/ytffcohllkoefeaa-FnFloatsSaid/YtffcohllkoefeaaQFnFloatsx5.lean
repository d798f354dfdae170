/- The functions that the law FnFloats reaches, each with what it computes and its contract. -/
import Derived.Test.YtffcohllkoefeaaQFnFloatsx0
import Derived.Test.YtffcohllkoefeaaQFnFloatsx1
import Derived.Test.YtffcohllkoefeaaQFnFloatsx2
import Derived.Test.YtffcohllkoefeaaQFnFloatsx3
import Derived.Test.YtffcohllkoefeaaQFnFloatsx4
namespace Go.Proofs.Ytffcohllkoefeaa.PFnFloats
open Go.RowKit Go.Proofs.YtffcohllkoefeaaW.PrintWords Go.Proofs.YtffcohllkoefeaaW.PrintLast Go.Proofs.YtffcohllkoefeaaW.PrintMore
attribute [local go_sem] max2_int min2_int max_two min_two max_three min_three max_four min_four   -- for this text's walks alone
set_option linter.unusedVariables false
set_option linter.unusedSimpArgs false

/-! ### spec_DrawFloatOf: function 36 -/
def spec_DrawFloatOf.f (k : Nat) (l0 : List Int) : Option (Int) := (spec_l1New.f k l0).bind fun bt133 => ((spec_l1Once.f bt133.1 bt133.2.1 bt133.2.2 2).bind fun bt137 => (if bt137.1 = true then ((spec_l1Odd.f bt133.1 bt137.2.1 bt137.2.2).bind fun bt140 => (some bt140.1)) else ((spec_l1Below.f bt133.1 bt137.2.1 bt137.2.2 16777216).bind fun bt143 => ((spec_l1Int.f bt133.1 bt143.2.1 bt143.2.2 (([9007199254740992, 9007199254740993, (-9007199254740992), 4503599627370497, 9007199254740991, wrap64 (bt143.1 - 8000000)] : List Int))).bind fun bt149 => (some bt149.1)))))
theorem spec_DrawFloatOf.mono : ∀ a0 k, LeO (spec_DrawFloatOf.f k a0) (spec_DrawFloatOf.f (k + 1) a0) := by
  intro a0 k
  unfold spec_DrawFloatOf.f
  repeat' first
      | (with_reducible exact spec_l1New.mono _ _)
      | (with_reducible exact LeO.refl _)
      | (with_reducible exact LeO.none _)
      | (with_reducible refine LeO.ite ?_ ?_)
      | (with_reducible refine LeO.bind ?_ (fun _ => ?_))
      | exact spec_l1New.mono _ _
      | exact LeO.none _
      | refine LeO.ite ?_ ?_
      | refine LeO.bind ?_ (fun _ => ?_)
set_option maxHeartbeats 8000000 in
set_option maxRecDepth 100000 in
theorem spec_DrawFloatOf.calls (k : Nat) (A0 : Option Addr) (c0 : Nat) (l0 : List Int) (r : Int) (w : World) (hr0 : Kd.C (Kd.int .u8) w A0 l0.length l0) (hc0 : l0.length ≤ c0) (h : spec_DrawFloatOf.f k l0 = some r) :
    Calls Try.prog 36 #[.slice A0 l0.length c0] w fun e w' => e = .returned (.int .i64 r) ∧ Below w.heap.size w w' := by
  have HR0 := Aside0.mk hr0
  have HC0 := Aside0.mk hc0
  clear hr0 hc0
  have HB := Aside0.mk (Below.refl w.heap.size w)
  have H : ((spec_l1New.f k l0).bind fun bt133 => ((spec_l1Once.f bt133.1 bt133.2.1 bt133.2.2 2).bind fun bt137 => (if bt137.1 = true then ((spec_l1Odd.f bt133.1 bt137.2.1 bt137.2.2).bind fun bt140 => (some bt140.1)) else ((spec_l1Below.f bt133.1 bt137.2.1 bt137.2.2 16777216).bind fun bt143 => ((spec_l1Int.f bt133.1 bt143.2.1 bt143.2.2 (([9007199254740992, 9007199254740993, (-9007199254740992), 4503599627370497, 9007199254740991, wrap64 (bt143.1 - 8000000)] : List Int))).bind fun bt149 => (some bt149.1)))))) = some r := h
  clear h
  replace H := Option.bind_eq_some_iff.mp H
  obtain ⟨⟨t133, t134, t135⟩, A20, H⟩ := H
  replace H : ((spec_l1Once.f t133 t134 t135 2).bind fun bt137 => (if bt137.1 = true then ((spec_l1Odd.f t133 bt137.2.1 bt137.2.2).bind fun bt140 => (some bt140.1)) else ((spec_l1Below.f t133 bt137.2.1 bt137.2.2 16777216).bind fun bt143 => ((spec_l1Int.f t133 bt143.2.1 bt143.2.2 (([9007199254740992, 9007199254740993, (-9007199254740992), 4503599627370497, 9007199254740991, wrap64 (bt143.1 - 8000000)] : List Int))).bind fun bt149 => (some bt149.1))))) = some r := H
  have A2 := Aside0.mk A20
  clear A20
  replace H := Option.bind_eq_some_iff.mp H
  obtain ⟨⟨t137, t138, t139⟩, A30, H⟩ := H
  replace H : (if t137 = true then ((spec_l1Odd.f t133 t138 t139).bind fun bt140 => (some bt140.1)) else ((spec_l1Below.f t133 t138 t139 16777216).bind fun bt143 => ((spec_l1Int.f t133 bt143.2.1 bt143.2.2 (([9007199254740992, 9007199254740993, (-9007199254740992), 4503599627370497, 9007199254740991, wrap64 (bt143.1 - 8000000)] : List Int))).bind fun bt149 => (some bt149.1)))) = some r := H
  have A3 := Aside0.mk A30
  clear A30
  by_cases c4 : t137 = true
  · subst c4
    have H1 : ((spec_l1Odd.f t133 t138 t139).bind fun bt140 => (some bt140.1)) = some r := by rw [if_pos rfl] at H; exact H
    clear H
    have H := H1
    clear H1
    replace H := Option.bind_eq_some_iff.mp H
    obtain ⟨⟨t140, t141, t142⟩, A50, H⟩ := H
    replace H : (some t140) = some r := H
    have A5 := Aside0.mk A50
    clear A50
    obtain rfl := Option.some.inj H
    go_enter Try.func36, Try.ntmps36
    go_wp2_with (first | ((with_reducible refine gate_callee (f := 74) rfl ?_); refine goesL_ (some 5) rfl rfl Try.func74 (by kernel_rfl) rfl #[.slice A0 l0.length c0] rfl (by (try simp only [List.map_toArray, List.map_cons, List.map_nil]); first | done | rfl | (simp only [List.length_drop, List.length_take]; rfl)) ?_; (with_reducible refine (spec_l1New.calls k _ _ l0 t133 t134 t135 w _ ?side1 ?side2 ?side3 A2.out).mono ?_); (case side1 => repeat (first | (with_reducible first | exact HB.out | apply below_alloc | apply pw_below_drewN | apply below_drew1) | exact HB.out)); (case side2 => exact HR0.out); (case side3 => exact HC0.out); rintro e w6 ⟨g136, rfl, hi, hb, hb2⟩; refine ⟨_, rfl, ?_⟩; have n0_ := Aside0.mk (hb); have n1_ := Aside0.mk (hi); clear HB; have HB := n0_; have HI136 := n1_; clear n0_ n1_; (try clear hb); (try clear hb2); (try clear hk); (try clear hi)) | ((with_reducible refine gate_callee (f := 75) rfl ?_); refine goesL_ (some 7) rfl rfl Try.func75 (by kernel_rfl) rfl #[.pointer (some ⟨g136, 0, none⟩), .int .i64 2] rfl (by (try simp only [List.map_toArray, List.map_cons, List.map_nil]); first | done | rfl | (simp only [List.length_drop, List.length_take]; rfl)) ?_; (with_reducible refine (spec_l1Once.calls g136 t133 t134 t135 2 true t138 t139 w _ ?side1 ?side2 A3.out).mono ?_); (case side1 => repeat (first | (with_reducible first | exact HI136.out | apply IsS99.alloc | apply IsS99.drewN | apply IsS99.drew | apply IsS99.set_1 | apply IsS99.set_2) | exact HI136.out)); (case side2 => repeat (first | (with_reducible first | exact HB.out | apply below_alloc | apply pw_below_drewN | apply below_drew1 | refine below_set ?_ (IsS99.ge HI136.out)) | exact HB.out)); rintro e w7 ⟨rfl, hi, hb, hk⟩; refine ⟨_, rfl, ?_⟩; have n0_ := Aside0.mk (hb); have n1_ := Aside0.mk (hi); clear HB; clear HI136; have HB := n0_; have HI136 := n1_; clear n0_ n1_; (try clear hb); (try clear hb2); (try clear hk); (try clear hi)) | ((with_reducible refine gate_callee (f := 76) rfl ?_); refine goesL_ (some 9) rfl rfl Try.func76 (by kernel_rfl) rfl #[.pointer (some ⟨g136, 0, none⟩)] rfl (by (try simp only [List.map_toArray, List.map_cons, List.map_nil]); first | done | rfl | (simp only [List.length_drop, List.length_take]; rfl)) ?_; (with_reducible refine (spec_l1Odd.calls g136 t133 t138 t139 t140 t141 t142 w _ ?side1 ?side2 A5.out).mono ?_); (case side1 => repeat (first | (with_reducible first | exact HI136.out | apply IsS99.alloc | apply IsS99.drewN | apply IsS99.drew | apply IsS99.set_1 | apply IsS99.set_2) | exact HI136.out)); (case side2 => repeat (first | (with_reducible first | exact HB.out | apply below_alloc | apply pw_below_drewN | apply below_drew1 | refine below_set ?_ (IsS99.ge HI136.out)) | exact HB.out)); rintro e w8 ⟨rfl, hi, hb, hk⟩; refine ⟨_, rfl, ?_⟩; have n0_ := Aside0.mk (hb); have n1_ := Aside0.mk (hi); clear HB; clear HI136; have HB := n0_; have HI136 := n1_; clear n0_ n1_; (try clear hb); (try clear hb2); (try clear hk); (try clear hi)))
    go_ret
    exact ⟨by first | rfl | (simp [errW_none, errW_some] <;> rfl) | (simp [*, errW_none, errW_some] <;> rfl), by repeat (first | (with_reducible first | exact HB.out | apply below_alloc | apply pw_below_drewN | apply below_drew1 | refine below_set ?_ (IsS99.ge HI136.out)) | exact HB.out)⟩
  · replace c4 := Bool.eq_false_iff.mpr c4
    subst c4
    have H1 : ((spec_l1Below.f t133 t138 t139 16777216).bind fun bt143 => ((spec_l1Int.f t133 bt143.2.1 bt143.2.2 (([9007199254740992, 9007199254740993, (-9007199254740992), 4503599627370497, 9007199254740991, wrap64 (bt143.1 - 8000000)] : List Int))).bind fun bt149 => (some bt149.1))) = some r := by rw [if_neg (show ¬ (false = true) by decide)] at H; exact H
    clear H
    have H := H1
    clear H1
    replace H := Option.bind_eq_some_iff.mp H
    obtain ⟨⟨t143, t144, t145⟩, A90, H⟩ := H
    replace H : ((spec_l1Int.f t133 t144 t145 (([9007199254740992, 9007199254740993, (-9007199254740992), 4503599627370497, 9007199254740991, wrap64 (t143 - 8000000)] : List Int))).bind fun bt149 => (some bt149.1)) = some r := H
    have A9 := Aside0.mk A90
    clear A90
    obtain ⟨y146, hy146⟩ : ∃ y_ : List Int, y_ = (([9007199254740992, 9007199254740993, (-9007199254740992), 4503599627370497, 9007199254740991, wrap64 (t143 - 8000000)] : List Int)) := ⟨_, rfl⟩
    replace H : ((spec_l1Int.f t133 t144 t145 y146).bind fun bt149 => (some bt149.1)) = some r := by first | (rw [hy146]; with_reducible exact H) | (have H2_ := (Option.bind_some _ _).symm.trans H; rw [hy146]; with_reducible exact H2_) | (have H2_ := (Option.bind_some _ _).symm.trans H; with_reducible exact H2_) | with_reducible exact H | (rw [hy146]; exact H) | exact H
    have Ny146 := Aside0.mk hy146
    clear hy146
    replace H := Option.bind_eq_some_iff.mp H
    obtain ⟨⟨t149, t150, t151⟩, A100, H⟩ := H
    replace H : (some t149) = some r := H
    have A10 := Aside0.mk A100
    clear A100
    obtain rfl := Option.some.inj H
    go_enter Try.func36, Try.ntmps36
    go_wp2_with (first | ((with_reducible refine gate_callee (f := 74) rfl ?_); refine goesL_ (some 5) rfl rfl Try.func74 (by kernel_rfl) rfl #[.slice A0 l0.length c0] rfl (by (try simp only [List.map_toArray, List.map_cons, List.map_nil]); first | done | rfl | (simp only [List.length_drop, List.length_take]; rfl)) ?_; (with_reducible refine (spec_l1New.calls k _ _ l0 t133 t134 t135 w _ ?side1 ?side2 ?side3 A2.out).mono ?_); (case side1 => repeat (first | (with_reducible first | exact HB.out | apply below_alloc | apply pw_below_drewN | apply below_drew1) | exact HB.out)); (case side2 => exact HR0.out); (case side3 => exact HC0.out); rintro e w11 ⟨g136, rfl, hi, hb, hb2⟩; refine ⟨_, rfl, ?_⟩; have n0_ := Aside0.mk (hb); have n1_ := Aside0.mk (hi); clear HB; have HB := n0_; have HI136 := n1_; clear n0_ n1_; (try clear hb); (try clear hb2); (try clear hk); (try clear hi)) | ((with_reducible refine gate_callee (f := 75) rfl ?_); refine goesL_ (some 7) rfl rfl Try.func75 (by kernel_rfl) rfl #[.pointer (some ⟨g136, 0, none⟩), .int .i64 2] rfl (by (try simp only [List.map_toArray, List.map_cons, List.map_nil]); first | done | rfl | (simp only [List.length_drop, List.length_take]; rfl)) ?_; (with_reducible refine (spec_l1Once.calls g136 t133 t134 t135 2 false t138 t139 w _ ?side1 ?side2 A3.out).mono ?_); (case side1 => repeat (first | (with_reducible first | exact HI136.out | apply IsS99.alloc | apply IsS99.drewN | apply IsS99.drew | apply IsS99.set_1 | apply IsS99.set_2) | exact HI136.out)); (case side2 => repeat (first | (with_reducible first | exact HB.out | apply below_alloc | apply pw_below_drewN | apply below_drew1 | refine below_set ?_ (IsS99.ge HI136.out)) | exact HB.out)); rintro e w12 ⟨rfl, hi, hb, hk⟩; refine ⟨_, rfl, ?_⟩; have n0_ := Aside0.mk (hb); have n1_ := Aside0.mk (hi); clear HB; clear HI136; have HB := n0_; have HI136 := n1_; clear n0_ n1_; (try clear hb); (try clear hb2); (try clear hk); (try clear hi)) | ((with_reducible refine gate_callee (f := 78) rfl ?_); refine goesL_ (some 12) rfl rfl Try.func78 (by kernel_rfl) rfl #[.pointer (some ⟨g136, 0, none⟩), .int .i64 16777216] rfl (by (try simp only [List.map_toArray, List.map_cons, List.map_nil]); first | done | rfl | (simp only [List.length_drop, List.length_take]; rfl)) ?_; (with_reducible refine (spec_l1Below.calls g136 t133 t138 t139 16777216 t143 t144 t145 w _ ?side1 ?side2 A9.out).mono ?_); (case side1 => repeat (first | (with_reducible first | exact HI136.out | apply IsS99.alloc | apply IsS99.drewN | apply IsS99.drew | apply IsS99.set_1 | apply IsS99.set_2) | exact HI136.out)); (case side2 => repeat (first | (with_reducible first | exact HB.out | apply below_alloc | apply pw_below_drewN | apply below_drew1 | refine below_set ?_ (IsS99.ge HI136.out)) | exact HB.out)); rintro e w13 ⟨rfl, hi, hb, hk⟩; refine ⟨_, rfl, ?_⟩; have n0_ := Aside0.mk (hb); have n1_ := Aside0.mk (hi); clear HB; clear HI136; have HB := n0_; have HI136 := n1_; clear n0_ n1_; (try clear hb); (try clear hb2); (try clear hk); (try clear hi)) | ((with_reducible refine gate_dst (N := 14) rfl ?_); refine Kd.R_lit (Kd.int .i64) _ 3 ?hg (N := 14) ?hd (xs := ([9007199254740992, 9007199254740993, (-9007199254740992), 4503599627370497, 9007199254740991, wrap64 (t143 - 8000000)] : List Int)) (inner := [.int .i64 9007199254740992, .int .i64 9007199254740993, .int .i64 (-9007199254740992), .int .i64 4503599627370497, .int .i64 9007199254740991, .int .i64 (wrap64 (t143 - 8000000))]) (ok := fun _ => True) (okp := fun _ => True) ?hr ?hp (fun _ hk => hk) trivial (Below.refl _ _) (Nat.le_refl _) (by simp) ?_; (case hd => rfl); (case hg => rfl); (case hr => first | (go_simp; done) | (go_simp; rfl)); (case hp => exact (Reps.one (show Kd.M (Kd.int .i64) _ _ _ 9007199254740992 [.int .i64 9007199254740992] from rfl) (Reps.one (show Kd.M (Kd.int .i64) _ _ _ 9007199254740993 [.int .i64 9007199254740993] from rfl) (Reps.one (show Kd.M (Kd.int .i64) _ _ _ (-9007199254740992) [.int .i64 (-9007199254740992)] from rfl) (Reps.one (show Kd.M (Kd.int .i64) _ _ _ 4503599627370497 [.int .i64 4503599627370497] from rfl) (Reps.one (show Kd.M (Kd.int .i64) _ _ _ 9007199254740991 [.int .i64 9007199254740991] from rfl) (Reps.one (show Kd.M (Kd.int .i64) _ _ _ (wrap64 (t143 - 8000000)) [.int .i64 (wrap64 (t143 - 8000000))] from rfl) (Reps.none _ _)))))))); intro v147 w14 ho15 hb hg_ hnew_; clear hg_ hnew_; (first | rw [← Ny146.out] at ho15 | (simp only [Int.reduceToNat] at ho15; rw [← Ny146.out] at ho15)); have n0_ := Aside0.mk (Kd.R_lower ho15 (below_size (by repeat (first | (with_reducible first | exact HB.out | apply below_alloc | apply pw_below_drewN | apply below_drew1 | refine below_set ?_ (IsS99.ge HI136.out)) | exact HB.out)))); have n1_ := Aside0.mk (IsS99.below (by repeat (first | (with_reducible first | exact HI136.out | apply IsS99.alloc | apply IsS99.drewN | apply IsS99.drew | apply IsS99.set_1 | apply IsS99.set_2) | exact HI136.out)) hb); have n2_ := Aside0.mk (below_step (by repeat (first | (with_reducible first | exact HB.out | apply below_alloc | apply pw_below_drewN | apply below_drew1 | refine below_set ?_ (IsS99.ge HI136.out)) | exact HB.out)) hb); clear HI136; clear HB; have HO148 := n0_; have HI136 := n1_; have HB := n2_; clear n0_ n1_ n2_; clear hb ho15; obtain ⟨Ao16, co16, eo16⟩ := Kd.R_slice HO148.out; subst eo16) | ((with_reducible refine gate_callee (f := 77) rfl ?_); refine goesL_ (some 15) rfl rfl Try.func77 (by kernel_rfl) rfl #[.pointer (some ⟨g136, 0, none⟩), .slice Ao16 y146.length co16] rfl (by (try simp only [List.map_toArray, List.map_cons, List.map_nil]); first | done | rfl | (simp only [List.length_drop, List.length_take]; rfl)) ?_; (with_reducible refine (spec_l1Int.calls g136 t133 t144 t145 _ _ y146 t149 t150 t151 w _ ?side1 ?side2 ?side3 ?side4 ?side5 A10.out).mono ?_); (case side1 => repeat (first | (with_reducible first | exact HI136.out | apply IsS99.alloc | apply IsS99.drewN | apply IsS99.drew | apply IsS99.set_1 | apply IsS99.set_2) | exact HI136.out)); (case side2 => repeat (first | (with_reducible first | exact HB.out | apply below_alloc | apply pw_below_drewN | apply below_drew1 | refine below_set ?_ (IsS99.ge HI136.out)) | exact HB.out)); (case side3 => repeat (first | exact (Kd.R_reads' HO148.out).2.2 | (with_reducible refine Kd.C_alloc ?_ _) | (with_reducible refine Kd.C_drewN ?_ _) | (with_reducible refine Kd.C_drew ?_))); (case side4 => exact (Kd.R_reads' HO148.out).2.1); (case side5 => exact far_slice (IsS99.own_ne HI136.out HO148.out (by decide))); rintro e w17 ⟨rfl, hi, hb, hk⟩; refine ⟨_, rfl, ?_⟩; have n0_ := Aside0.mk (Kd.R_mono (Kd.R_keep (IsS99.apart (show IsS99 w _ g136 t133 t144 t145 from by repeat (first | (with_reducible first | exact HI136.out | apply IsS99.alloc | apply IsS99.drewN | apply IsS99.drew | apply IsS99.set_1 | apply IsS99.set_2) | exact HI136.out)) (by (with_reducible repeat (first | apply Kd.R_alloc | apply Kd.R_drewN | apply Kd.R_drew)); exact HO148.out) (by decide)) hk (fun _ h => h.2)) (fun _ h => h.1)); have n1_ := Aside0.mk (hb); have n2_ := Aside0.mk (hi); clear HO148; clear HB; clear HI136; have HO148 := n0_; have HB := n1_; have HI136 := n2_; clear n0_ n1_ n2_; (try clear hb); (try clear hb2); (try clear hk); (try clear hi)))
    go_ret
    exact ⟨by first | rfl | (simp [errW_none, errW_some] <;> rfl) | (simp [*, errW_none, errW_some] <;> rfl), by repeat (first | (with_reducible first | exact HB.out | apply below_alloc | apply pw_below_drewN | apply below_drew1 | refine below_set ?_ (IsS99.ge HI136.out)) | exact HB.out)⟩

/-! ### impl_IntOf: function 37 -/
def impl_IntOf.f (k : Nat) (a0 : Int) : Option (Int × Bool) := if (IntKind.u64.wrap ((IntKind.u64.wrap (a0)) * 2)) = 0 then (some (0, true)) else ((impl_inRange.f (wrap64 ((wrap64 (Go.bits .and .u64 ((IntKind.u64.wrap (a0)) / 4503599627370496) 2047)) - 1023)) 0 53).bind fun t152 => (if t152 = true then (if 0 ≤ (IntKind.u64.wrap (wrap64 (53 - (wrap64 ((wrap64 (Go.bits .and .u64 ((IntKind.u64.wrap (a0)) / 4503599627370496) 2047)) - 1023))))) then (if ((IntKind.u64.wrap (a0)) / 9223372036854775808) = 1 then ((impl_FloatOf.f k (wrap64 (-(wrap64 (shr .u64 (IntKind.u64.wrap ((Go.bits .or .u64 (Go.bits .and .u64 (IntKind.u64.wrap (a0)) 4503599627370495) 4503599627370496) * 2)) (IntKind.u64.wrap (wrap64 (53 - (wrap64 ((wrap64 (Go.bits .and .u64 ((IntKind.u64.wrap (a0)) / 4503599627370496) 2047)) - 1023)))))))))).bind fun t153 => (if t153 = a0 then (some (wrap64 (-(wrap64 (shr .u64 (IntKind.u64.wrap ((Go.bits .or .u64 (Go.bits .and .u64 (IntKind.u64.wrap (a0)) 4503599627370495) 4503599627370496) * 2)) (IntKind.u64.wrap (wrap64 (53 - (wrap64 ((wrap64 (Go.bits .and .u64 ((IntKind.u64.wrap (a0)) / 4503599627370496) 2047)) - 1023)))))))), true)) else (some (0, false)))) else ((impl_FloatOf.f k (wrap64 (shr .u64 (IntKind.u64.wrap ((Go.bits .or .u64 (Go.bits .and .u64 (IntKind.u64.wrap (a0)) 4503599627370495) 4503599627370496) * 2)) (IntKind.u64.wrap (wrap64 (53 - (wrap64 ((wrap64 (Go.bits .and .u64 ((IntKind.u64.wrap (a0)) / 4503599627370496) 2047)) - 1023)))))))).bind fun t154 => (if t154 = a0 then (some (wrap64 (shr .u64 (IntKind.u64.wrap ((Go.bits .or .u64 (Go.bits .and .u64 (IntKind.u64.wrap (a0)) 4503599627370495) 4503599627370496) * 2)) (IntKind.u64.wrap (wrap64 (53 - (wrap64 ((wrap64 (Go.bits .and .u64 ((IntKind.u64.wrap (a0)) / 4503599627370496) 2047)) - 1023)))))), true)) else (some (0, false))))) else (none)) else (some (0, false))))
theorem impl_IntOf.mono : ∀ a0 k, LeO (impl_IntOf.f k a0) (impl_IntOf.f (k + 1) a0) := by
  intro a0 k
  unfold impl_IntOf.f
  repeat' first
      | (with_reducible exact impl_FloatOf.mono _ _)
      | (with_reducible exact LeO.refl _)
      | (with_reducible exact LeO.none _)
      | (with_reducible refine LeO.ite ?_ ?_)
      | (with_reducible refine LeO.bind ?_ (fun _ => ?_))
      | exact impl_FloatOf.mono _ _
      | exact LeO.none _
      | refine LeO.ite ?_ ?_
      | refine LeO.bind ?_ (fun _ => ?_)
set_option maxHeartbeats 8000000 in
set_option maxRecDepth 100000 in
theorem impl_IntOf.calls (k : Nat) (a0 : Int) (r1 : Int) (r2 : Bool) (w : World) (h : impl_IntOf.f k a0 = some (r1, r2)) :
    Calls Try.prog 37 #[.int .i64 a0] w fun e w' => e = .returned (.tuple #[.int .i64 r1, .bool r2]) ∧ Drawn0 w w' := by
  have H : (if (IntKind.u64.wrap ((IntKind.u64.wrap (a0)) * 2)) = 0 then (some (0, true)) else ((impl_inRange.f (wrap64 ((wrap64 (Go.bits .and .u64 ((IntKind.u64.wrap (a0)) / 4503599627370496) 2047)) - 1023)) 0 53).bind fun t152 => (if t152 = true then (if 0 ≤ (IntKind.u64.wrap (wrap64 (53 - (wrap64 ((wrap64 (Go.bits .and .u64 ((IntKind.u64.wrap (a0)) / 4503599627370496) 2047)) - 1023))))) then (if ((IntKind.u64.wrap (a0)) / 9223372036854775808) = 1 then ((impl_FloatOf.f k (wrap64 (-(wrap64 (shr .u64 (IntKind.u64.wrap ((Go.bits .or .u64 (Go.bits .and .u64 (IntKind.u64.wrap (a0)) 4503599627370495) 4503599627370496) * 2)) (IntKind.u64.wrap (wrap64 (53 - (wrap64 ((wrap64 (Go.bits .and .u64 ((IntKind.u64.wrap (a0)) / 4503599627370496) 2047)) - 1023)))))))))).bind fun t153 => (if t153 = a0 then (some (wrap64 (-(wrap64 (shr .u64 (IntKind.u64.wrap ((Go.bits .or .u64 (Go.bits .and .u64 (IntKind.u64.wrap (a0)) 4503599627370495) 4503599627370496) * 2)) (IntKind.u64.wrap (wrap64 (53 - (wrap64 ((wrap64 (Go.bits .and .u64 ((IntKind.u64.wrap (a0)) / 4503599627370496) 2047)) - 1023)))))))), true)) else (some (0, false)))) else ((impl_FloatOf.f k (wrap64 (shr .u64 (IntKind.u64.wrap ((Go.bits .or .u64 (Go.bits .and .u64 (IntKind.u64.wrap (a0)) 4503599627370495) 4503599627370496) * 2)) (IntKind.u64.wrap (wrap64 (53 - (wrap64 ((wrap64 (Go.bits .and .u64 ((IntKind.u64.wrap (a0)) / 4503599627370496) 2047)) - 1023)))))))).bind fun t154 => (if t154 = a0 then (some (wrap64 (shr .u64 (IntKind.u64.wrap ((Go.bits .or .u64 (Go.bits .and .u64 (IntKind.u64.wrap (a0)) 4503599627370495) 4503599627370496) * 2)) (IntKind.u64.wrap (wrap64 (53 - (wrap64 ((wrap64 (Go.bits .and .u64 ((IntKind.u64.wrap (a0)) / 4503599627370496) 2047)) - 1023)))))), true)) else (some (0, false))))) else (none)) else (some (0, false))))) = some (r1, r2) := h
  clear h
  by_cases c2 : (IntKind.u64.wrap ((IntKind.u64.wrap (a0)) * 2)) = 0
  · rw [if_pos c2] at H
    have c2b0 : ((IntKind.u64.wrap ((IntKind.u64.wrap (a0)) * 2)) == 0) = true := beq_iff_eq.mpr c2
    have c2b1 : ((IntKind.u64.wrap ((IntKind.u64.wrap (a0)) * 2)) != 0) = false := bne_eq_false_iff_eq.mpr c2
    clear c2
    simp only [Option.some.injEq, Prod.mk.injEq] at H
    obtain ⟨rfl, rfl⟩ := H
    go_enter Try.func37, Try.ntmps37
    go_wp2
    go_ret2
    exact ⟨by first | rfl | (simp; done) | (simp [*]; done), by repeat (first | exact Drawn0.refl _ | apply Drawn0.step)⟩
  · rw [if_neg c2] at H
    have c2b0 : ((IntKind.u64.wrap ((IntKind.u64.wrap (a0)) * 2)) == 0) = false := beq_eq_false_iff_ne.mpr c2
    have c2b1 : ((IntKind.u64.wrap ((IntKind.u64.wrap (a0)) * 2)) != 0) = true := bne_iff_ne.mpr c2
    replace H := Option.bind_eq_some_iff.mp H
    obtain ⟨t152, A30, H⟩ := H
    replace H : (if t152 = true then (if 0 ≤ (IntKind.u64.wrap (wrap64 (53 - (wrap64 ((wrap64 (Go.bits .and .u64 ((IntKind.u64.wrap (a0)) / 4503599627370496) 2047)) - 1023))))) then (if ((IntKind.u64.wrap (a0)) / 9223372036854775808) = 1 then ((impl_FloatOf.f k (wrap64 (-(wrap64 (shr .u64 (IntKind.u64.wrap ((Go.bits .or .u64 (Go.bits .and .u64 (IntKind.u64.wrap (a0)) 4503599627370495) 4503599627370496) * 2)) (IntKind.u64.wrap (wrap64 (53 - (wrap64 ((wrap64 (Go.bits .and .u64 ((IntKind.u64.wrap (a0)) / 4503599627370496) 2047)) - 1023)))))))))).bind fun t153 => (if t153 = a0 then (some (wrap64 (-(wrap64 (shr .u64 (IntKind.u64.wrap ((Go.bits .or .u64 (Go.bits .and .u64 (IntKind.u64.wrap (a0)) 4503599627370495) 4503599627370496) * 2)) (IntKind.u64.wrap (wrap64 (53 - (wrap64 ((wrap64 (Go.bits .and .u64 ((IntKind.u64.wrap (a0)) / 4503599627370496) 2047)) - 1023)))))))), true)) else (some (0, false)))) else ((impl_FloatOf.f k (wrap64 (shr .u64 (IntKind.u64.wrap ((Go.bits .or .u64 (Go.bits .and .u64 (IntKind.u64.wrap (a0)) 4503599627370495) 4503599627370496) * 2)) (IntKind.u64.wrap (wrap64 (53 - (wrap64 ((wrap64 (Go.bits .and .u64 ((IntKind.u64.wrap (a0)) / 4503599627370496) 2047)) - 1023)))))))).bind fun t154 => (if t154 = a0 then (some (wrap64 (shr .u64 (IntKind.u64.wrap ((Go.bits .or .u64 (Go.bits .and .u64 (IntKind.u64.wrap (a0)) 4503599627370495) 4503599627370496) * 2)) (IntKind.u64.wrap (wrap64 (53 - (wrap64 ((wrap64 (Go.bits .and .u64 ((IntKind.u64.wrap (a0)) / 4503599627370496) 2047)) - 1023)))))), true)) else (some (0, false))))) else (none)) else (some (0, false))) = some (r1, r2) := H
    have A3 := Aside0.mk A30
    clear A30
    by_cases c4 : t152 = true
    · subst c4
      have H1 : (if 0 ≤ (IntKind.u64.wrap (wrap64 (53 - (wrap64 ((wrap64 (Go.bits .and .u64 ((IntKind.u64.wrap (a0)) / 4503599627370496) 2047)) - 1023))))) then (if ((IntKind.u64.wrap (a0)) / 9223372036854775808) = 1 then ((impl_FloatOf.f k (wrap64 (-(wrap64 (shr .u64 (IntKind.u64.wrap ((Go.bits .or .u64 (Go.bits .and .u64 (IntKind.u64.wrap (a0)) 4503599627370495) 4503599627370496) * 2)) (IntKind.u64.wrap (wrap64 (53 - (wrap64 ((wrap64 (Go.bits .and .u64 ((IntKind.u64.wrap (a0)) / 4503599627370496) 2047)) - 1023)))))))))).bind fun t153 => (if t153 = a0 then (some (wrap64 (-(wrap64 (shr .u64 (IntKind.u64.wrap ((Go.bits .or .u64 (Go.bits .and .u64 (IntKind.u64.wrap (a0)) 4503599627370495) 4503599627370496) * 2)) (IntKind.u64.wrap (wrap64 (53 - (wrap64 ((wrap64 (Go.bits .and .u64 ((IntKind.u64.wrap (a0)) / 4503599627370496) 2047)) - 1023)))))))), true)) else (some (0, false)))) else ((impl_FloatOf.f k (wrap64 (shr .u64 (IntKind.u64.wrap ((Go.bits .or .u64 (Go.bits .and .u64 (IntKind.u64.wrap (a0)) 4503599627370495) 4503599627370496) * 2)) (IntKind.u64.wrap (wrap64 (53 - (wrap64 ((wrap64 (Go.bits .and .u64 ((IntKind.u64.wrap (a0)) / 4503599627370496) 2047)) - 1023)))))))).bind fun t154 => (if t154 = a0 then (some (wrap64 (shr .u64 (IntKind.u64.wrap ((Go.bits .or .u64 (Go.bits .and .u64 (IntKind.u64.wrap (a0)) 4503599627370495) 4503599627370496) * 2)) (IntKind.u64.wrap (wrap64 (53 - (wrap64 ((wrap64 (Go.bits .and .u64 ((IntKind.u64.wrap (a0)) / 4503599627370496) 2047)) - 1023)))))), true)) else (some (0, false))))) else (none)) = some (r1, r2) := by rw [if_pos rfl] at H; exact H
      clear H
      have H := H1
      clear H1
      obtain ⟨ji5, hji5⟩ : ∃ j_ : Int, (IntKind.u64.wrap (wrap64 (53 - (wrap64 ((wrap64 (Go.bits .and .u64 ((IntKind.u64.wrap (a0)) / 4503599627370496) 2047)) - 1023))))) = j_ := ⟨_, rfl⟩
      replace H : (if 0 ≤ (ji5) then (if ((IntKind.u64.wrap (a0)) / 9223372036854775808) = 1 then ((impl_FloatOf.f k (wrap64 (-(wrap64 (shr .u64 (IntKind.u64.wrap ((Go.bits .or .u64 (Go.bits .and .u64 (IntKind.u64.wrap (a0)) 4503599627370495) 4503599627370496) * 2)) (ji5)))))).bind fun t153 => (if t153 = a0 then (some (wrap64 (-(wrap64 (shr .u64 (IntKind.u64.wrap ((Go.bits .or .u64 (Go.bits .and .u64 (IntKind.u64.wrap (a0)) 4503599627370495) 4503599627370496) * 2)) (ji5)))), true)) else (some (0, false)))) else ((impl_FloatOf.f k (wrap64 (shr .u64 (IntKind.u64.wrap ((Go.bits .or .u64 (Go.bits .and .u64 (IntKind.u64.wrap (a0)) 4503599627370495) 4503599627370496) * 2)) (ji5)))).bind fun t154 => (if t154 = a0 then (some (wrap64 (shr .u64 (IntKind.u64.wrap ((Go.bits .or .u64 (Go.bits .and .u64 (IntKind.u64.wrap (a0)) 4503599627370495) 4503599627370496) * 2)) (ji5)), true)) else (some (0, false))))) else (none)) = some (r1, r2) := by first | (rw [hji5] at H; exact H) | (simp only [hji5] at H ⊢; exact H)
      (try rw [hji5] at A3)
      by_cases c6 : 0 ≤ (ji5)
      · rw [if_pos c6] at H
        have c6b0 := eq_true c6
        have c6b1 : decide (0 ≤ (ji5)) = true := decide_eq_true c6
        clear c6
        obtain ⟨ji7, hji7⟩ : ∃ j_ : Int, (shr .u64 (IntKind.u64.wrap ((Go.bits .or .u64 (Go.bits .and .u64 (IntKind.u64.wrap (a0)) 4503599627370495) 4503599627370496) * 2)) (ji5)) = j_ := ⟨_, rfl⟩
        replace H : (if ((IntKind.u64.wrap (a0)) / 9223372036854775808) = 1 then ((impl_FloatOf.f k (wrap64 (-(wrap64 (ji7))))).bind fun t153 => (if t153 = a0 then (some (wrap64 (-(wrap64 (ji7))), true)) else (some (0, false)))) else ((impl_FloatOf.f k (wrap64 (ji7))).bind fun t154 => (if t154 = a0 then (some (wrap64 (ji7), true)) else (some (0, false))))) = some (r1, r2) := by first | (rw [hji7] at H; exact H) | (simp only [hji7] at H ⊢; exact H)
        (try rw [hji7] at A3)
        have hji7_ : ((IntKind.u64.wrap ((Go.bits .or .u64 (Go.bits .and .u64 (IntKind.u64.wrap (a0)) 4503599627370495) 4503599627370496) * 2)) / 2 ^ min (ji5).toNat 64) = ji7 := hji7
        have hji7z : (ji5) ≤ 64 → ((IntKind.u64.wrap ((Go.bits .or .u64 (Go.bits .and .u64 (IntKind.u64.wrap (a0)) 4503599627370495) 4503599627370496) * 2)) / 2 ^ (ji5).toNat) = ji7 := shr_small hji7
        by_cases c8 : ((IntKind.u64.wrap (a0)) / 9223372036854775808) = 1
        · rw [if_pos c8] at H
          have c8b0 : (((IntKind.u64.wrap (a0)) / 9223372036854775808) == 1) = true := beq_iff_eq.mpr c8
          have c8b1 : (((IntKind.u64.wrap (a0)) / 9223372036854775808) != 1) = false := bne_eq_false_iff_eq.mpr c8
          clear c8
          replace H := Option.bind_eq_some_iff.mp H
          obtain ⟨t153, A90, H⟩ := H
          replace H : (if t153 = a0 then (some (wrap64 (-(wrap64 (ji7))), true)) else (some (0, false))) = some (r1, r2) := H
          have A9 := Aside0.mk A90
          clear A90
          by_cases c10 : t153 = a0
          · rw [if_pos c10] at H
            have c10b0 : (t153 == a0) = true := beq_iff_eq.mpr c10
            have c10b1 : (t153 != a0) = false := bne_eq_false_iff_eq.mpr c10
            clear c10
            simp only [Option.some.injEq, Prod.mk.injEq] at H
            obtain ⟨rfl, rfl⟩ := H
            go_enter Try.func37, Try.ntmps37
            go_wp2_with (first | ((with_reducible refine gate_callee (f := 51) rfl ?_); refine goesL_ (some 18) rfl rfl Try.func51 (by kernel_rfl) rfl #[.int .i64 (wrap64 ((wrap64 (Go.bits .and .u64 ((IntKind.u64.wrap (a0)) / 4503599627370496) 2047)) - 1023)), .int .i64 0, .int .i64 53] rfl (by (try simp only [List.map_toArray, List.map_cons, List.map_nil]); first | done | rfl | (simp only [List.length_drop, List.length_take]; rfl)) ?_; (with_reducible refine (impl_inRange.calls (wrap64 ((wrap64 (Go.bits .and .u64 ((IntKind.u64.wrap (a0)) / 4503599627370496) 2047)) - 1023)) 0 53 true _ A3.out).mono ?_); rintro e w' ⟨rfl, ⟨nd, rfl⟩⟩; refine ⟨_, rfl, ?_⟩) | ((with_reducible refine gate_callee (f := 16) rfl ?_); refine goesL_ (some 35) rfl rfl Try.func16 (by kernel_rfl) rfl #[.int .i64 (wrap64 (-(wrap64 (ji7))))] rfl (by (try simp only [List.map_toArray, List.map_cons, List.map_nil]); first | done | (simp only [hji7]; rfl) | rfl | (simp only [List.length_drop, List.length_take]; rfl)) ?_; (with_reducible refine (impl_FloatOf.calls k (wrap64 (-(wrap64 (ji7)))) t153 _ A9.out).mono ?_); rintro e w' ⟨rfl, ⟨nd, rfl⟩⟩; refine ⟨_, rfl, ?_⟩))
            go_ret2
            exact ⟨by first | rfl | (simp; done) | (simp only [← hji5, ← hji7] <;> (first | rfl | simp)) | (simp [*]; done), by repeat (first | exact Drawn0.refl _ | apply Drawn0.step)⟩
          · rw [if_neg c10] at H
            have c10b0 : (t153 == a0) = false := beq_eq_false_iff_ne.mpr c10
            have c10b1 : (t153 != a0) = true := bne_iff_ne.mpr c10
            simp only [Option.some.injEq, Prod.mk.injEq] at H
            obtain ⟨rfl, rfl⟩ := H
            go_enter Try.func37, Try.ntmps37
            go_wp2_with (first | ((with_reducible refine gate_callee (f := 51) rfl ?_); refine goesL_ (some 18) rfl rfl Try.func51 (by kernel_rfl) rfl #[.int .i64 (wrap64 ((wrap64 (Go.bits .and .u64 ((IntKind.u64.wrap (a0)) / 4503599627370496) 2047)) - 1023)), .int .i64 0, .int .i64 53] rfl (by (try simp only [List.map_toArray, List.map_cons, List.map_nil]); first | done | rfl | (simp only [List.length_drop, List.length_take]; rfl)) ?_; (with_reducible refine (impl_inRange.calls (wrap64 ((wrap64 (Go.bits .and .u64 ((IntKind.u64.wrap (a0)) / 4503599627370496) 2047)) - 1023)) 0 53 true _ A3.out).mono ?_); rintro e w' ⟨rfl, ⟨nd, rfl⟩⟩; refine ⟨_, rfl, ?_⟩) | ((with_reducible refine gate_callee (f := 16) rfl ?_); refine goesL_ (some 35) rfl rfl Try.func16 (by kernel_rfl) rfl #[.int .i64 (wrap64 (-(wrap64 (ji7))))] rfl (by (try simp only [List.map_toArray, List.map_cons, List.map_nil]); first | done | (simp only [hji7]; rfl) | rfl | (simp only [List.length_drop, List.length_take]; rfl)) ?_; (with_reducible refine (impl_FloatOf.calls k (wrap64 (-(wrap64 (ji7)))) t153 _ A9.out).mono ?_); rintro e w' ⟨rfl, ⟨nd, rfl⟩⟩; refine ⟨_, rfl, ?_⟩))
            go_ret2
            exact ⟨by first | rfl | (simp; done) | (simp only [← hji5, ← hji7] <;> (first | rfl | simp)) | (simp [*]; done), by repeat (first | exact Drawn0.refl _ | apply Drawn0.step)⟩
        · rw [if_neg c8] at H
          have c8b0 : (((IntKind.u64.wrap (a0)) / 9223372036854775808) == 1) = false := beq_eq_false_iff_ne.mpr c8
          have c8b1 : (((IntKind.u64.wrap (a0)) / 9223372036854775808) != 1) = true := bne_iff_ne.mpr c8
          replace H := Option.bind_eq_some_iff.mp H
          obtain ⟨t154, A110, H⟩ := H
          replace H : (if t154 = a0 then (some (wrap64 (ji7), true)) else (some (0, false))) = some (r1, r2) := H
          have A11 := Aside0.mk A110
          clear A110
          by_cases c12 : t154 = a0
          · rw [if_pos c12] at H
            have c12b0 : (t154 == a0) = true := beq_iff_eq.mpr c12
            have c12b1 : (t154 != a0) = false := bne_eq_false_iff_eq.mpr c12
            clear c12
            simp only [Option.some.injEq, Prod.mk.injEq] at H
            obtain ⟨rfl, rfl⟩ := H
            go_enter Try.func37, Try.ntmps37
            go_wp2_with (first | ((with_reducible refine gate_callee (f := 51) rfl ?_); refine goesL_ (some 18) rfl rfl Try.func51 (by kernel_rfl) rfl #[.int .i64 (wrap64 ((wrap64 (Go.bits .and .u64 ((IntKind.u64.wrap (a0)) / 4503599627370496) 2047)) - 1023)), .int .i64 0, .int .i64 53] rfl (by (try simp only [List.map_toArray, List.map_cons, List.map_nil]); first | done | rfl | (simp only [List.length_drop, List.length_take]; rfl)) ?_; (with_reducible refine (impl_inRange.calls (wrap64 ((wrap64 (Go.bits .and .u64 ((IntKind.u64.wrap (a0)) / 4503599627370496) 2047)) - 1023)) 0 53 true _ A3.out).mono ?_); rintro e w' ⟨rfl, ⟨nd, rfl⟩⟩; refine ⟨_, rfl, ?_⟩) | ((with_reducible refine gate_callee (f := 16) rfl ?_); refine goesL_ (some 35) rfl rfl Try.func16 (by kernel_rfl) rfl #[.int .i64 (wrap64 (ji7))] rfl (by (try simp only [List.map_toArray, List.map_cons, List.map_nil]); first | done | (simp only [hji7]; rfl) | rfl | (simp only [List.length_drop, List.length_take]; rfl)) ?_; (with_reducible refine (impl_FloatOf.calls k (wrap64 (ji7)) t154 _ A11.out).mono ?_); rintro e w' ⟨rfl, ⟨nd, rfl⟩⟩; refine ⟨_, rfl, ?_⟩))
            go_ret2
            exact ⟨by first | rfl | (simp; done) | (simp only [← hji5, ← hji7] <;> (first | rfl | simp)) | (simp [*]; done), by repeat (first | exact Drawn0.refl _ | apply Drawn0.step)⟩
          · rw [if_neg c12] at H
            have c12b0 : (t154 == a0) = false := beq_eq_false_iff_ne.mpr c12
            have c12b1 : (t154 != a0) = true := bne_iff_ne.mpr c12
            simp only [Option.some.injEq, Prod.mk.injEq] at H
            obtain ⟨rfl, rfl⟩ := H
            go_enter Try.func37, Try.ntmps37
            go_wp2_with (first | ((with_reducible refine gate_callee (f := 51) rfl ?_); refine goesL_ (some 18) rfl rfl Try.func51 (by kernel_rfl) rfl #[.int .i64 (wrap64 ((wrap64 (Go.bits .and .u64 ((IntKind.u64.wrap (a0)) / 4503599627370496) 2047)) - 1023)), .int .i64 0, .int .i64 53] rfl (by (try simp only [List.map_toArray, List.map_cons, List.map_nil]); first | done | rfl | (simp only [List.length_drop, List.length_take]; rfl)) ?_; (with_reducible refine (impl_inRange.calls (wrap64 ((wrap64 (Go.bits .and .u64 ((IntKind.u64.wrap (a0)) / 4503599627370496) 2047)) - 1023)) 0 53 true _ A3.out).mono ?_); rintro e w' ⟨rfl, ⟨nd, rfl⟩⟩; refine ⟨_, rfl, ?_⟩) | ((with_reducible refine gate_callee (f := 16) rfl ?_); refine goesL_ (some 35) rfl rfl Try.func16 (by kernel_rfl) rfl #[.int .i64 (wrap64 (ji7))] rfl (by (try simp only [List.map_toArray, List.map_cons, List.map_nil]); first | done | (simp only [hji7]; rfl) | rfl | (simp only [List.length_drop, List.length_take]; rfl)) ?_; (with_reducible refine (impl_FloatOf.calls k (wrap64 (ji7)) t154 _ A11.out).mono ?_); rintro e w' ⟨rfl, ⟨nd, rfl⟩⟩; refine ⟨_, rfl, ?_⟩))
            go_ret2
            exact ⟨by first | rfl | (simp; done) | (simp only [← hji5, ← hji7] <;> (first | rfl | simp)) | (simp [*]; done), by repeat (first | exact Drawn0.refl _ | apply Drawn0.step)⟩
      · rw [if_neg c6] at H
        exact absurd H (by simp)
    · replace c4 := Bool.eq_false_iff.mpr c4
      subst c4
      have H1 : (some (0, false)) = some (r1, r2) := by rw [if_neg (show ¬ (false = true) by decide)] at H; exact H
      clear H
      have H := H1
      clear H1
      simp only [Option.some.injEq, Prod.mk.injEq] at H
      obtain ⟨rfl, rfl⟩ := H
      go_enter Try.func37, Try.ntmps37
      go_wp2_with (first | ((with_reducible refine gate_callee (f := 51) rfl ?_); refine goesL_ (some 18) rfl rfl Try.func51 (by kernel_rfl) rfl #[.int .i64 (wrap64 ((wrap64 (Go.bits .and .u64 ((IntKind.u64.wrap (a0)) / 4503599627370496) 2047)) - 1023)), .int .i64 0, .int .i64 53] rfl (by (try simp only [List.map_toArray, List.map_cons, List.map_nil]); first | done | rfl | (simp only [List.length_drop, List.length_take]; rfl)) ?_; (with_reducible refine (impl_inRange.calls (wrap64 ((wrap64 (Go.bits .and .u64 ((IntKind.u64.wrap (a0)) / 4503599627370496) 2047)) - 1023)) 0 53 false _ A3.out).mono ?_); rintro e w' ⟨rfl, ⟨nd, rfl⟩⟩; refine ⟨_, rfl, ?_⟩))
      go_ret2
      exact ⟨by first | rfl | (simp; done) | (simp [*]; done), by repeat (first | exact Drawn0.refl _ | apply Drawn0.step)⟩

end Go.Proofs.Ytffcohllkoefeaa.PFnFloats
