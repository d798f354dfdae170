/- The functions that the law FnHulls reaches, each with what it computes and its contract. -/
import Derived.Test.YtgmnphckgicadaaQFnHullsx0
import Derived.Test.YtgmnphckgicadaaQFnHullsx7
import Derived.Test.YtgmnphckgicadaaQFnHullsx8
import Derived.Test.YtgmnphckgicadaaQFnHullsx11
import Derived.Test.YtgmnphckgicadaaQFnHullsx12
import Derived.Test.YtgmnphckgicadaaQFnHullsx13
import Derived.Test.YtgmnphckgicadaaQFnHullsx14
import Derived.Test.YtgmnphckgicadaaQFnHullsx15
namespace Go.Proofs.Ytgmnphckgicadaa.PFnHulls
open Go.RowKit Go.Proofs.YtgmnphckgicadaaW.PrintWords Go.Proofs.YtgmnphckgicadaaW.PrintLast Go.Proofs.YtgmnphckgicadaaW.PrintMore
attribute [local go_sem] max2_int min2_int max_two min_two max_three min_three max_four min_four
set_option linter.unusedVariables false
set_option linter.unusedSimpArgs false

def impl_Hull.f (k : Nat) (l0 : List (S67)) : Option ((List (S67))) := (impl_areRight.f k l0).bind fun t270 => (if t270 = true then ((impl_Pt_76.f l0).bind fun t271 => ((impl_Pt_77.f k t271).bind fun t274 => ((impl_Pt_79.f k t274).bind fun t275 => (if (t275.length : Int) < 2 then ((impl_Pt_80.f t275).bind fun t278 => (some t278)) else ((impl_chainOf.f k t275).bind fun t281 => ((impl_Pt_82.f k t275).bind fun t284 => ((impl_chainOf.f k t284).bind fun t285 => (if 0 ≤ (wrap64 ((t281.length : Int) - 1)) then (if (wrap64 ((t281.length : Int) - 1)) ≤ (t281.length : Int) then (if 0 ≤ (wrap64 ((t285.length : Int) - 1)) then (if (wrap64 ((t285.length : Int) - 1)) ≤ (t285.length : Int) then ((impl_Pt_83.f k (([(t281.take ((wrap64 ((t281.length : Int) - 1)) : Int).toNat), (t285.take ((wrap64 ((t285.length : Int) - 1)) : Int).toNat)] : List (List (S67))))).bind fun t301 => (some t301)) else (none)) else (none)) else (none)) else (none))))))))) else (some ([] : List (S67))))
def impl_Hull.T11 : Bool × List (List Nat × List Nat) := (true, [([], []), ([], []), ([1], [1]), ([2], [2]), ([0, 3], [0, 3]), ([], []), ([], []), ([6], [6]), ([7], [7]), ([5, 8], [5, 8]), ([4, 9], [4, 9]), ([10], [10]), ([11, 11, 0, 1, 2, 3, 4, 5, 6, 7, 8, 9, 10, 11], [11])])
def impl_Hull.B11 : List Nat := [0, 0, 2, 6, 15, 0, 0, 64, 192, 480, 1023, 2047, 4095]
theorem impl_Hull.tab11 : rtab .any (opsOf Try.f34 11) = impl_Hull.T11 := by kernel_rfl
theorem impl_Hull.bits11 : waitsOk impl_Hull.T11.2 impl_Hull.B11 = true := by kernel_rfl
def Clp (v u : Value) : Prop := ∃ A n c c', u = .slice A n c ∧ v = .slice A n c' ∧ n ≤ c'
theorem Clp_mk {A : Option Addr} {n c c' : Nat} (h : n ≤ c') : Clp (.slice A n c') (.slice A n c) := ⟨A, n, c, c', rfl, rfl, h⟩
theorem Clp_self {w : World} {base : Nat} {ok : Nat → Prop} {v : Value} {xs : List S67} (h : Kd.R k67 67 w base ok v xs) : Clp v v := by
 obtain ⟨A, c, rfl⟩ := Kd.R_slice h
 exact ⟨A, _, c, c, rfl, rfl, (Kd.R_reads' h).2.1⟩
set_option maxHeartbeats 8000000 in
set_option maxRecDepth 100000 in
theorem impl_Hull.calls (k : Nat) (A0 : Option Addr) (c0 : Nat) (l0 : List (S67)) (r : List (S67)) (w : World) (hr0 : Kd.C k67 w A0 l0.length l0) (hc0 : l0.length ≤ c0) (h : impl_Hull.f k l0 = some r) :
  Calls Try.prog 34 #[.slice A0 l0.length c0] w fun e w' => ∃ v0_ : Value, e = .returned (v0_) ∧ ∃ u0_ : Value, Clp v0_ u0_ ∧ Kd.R k67 67 w' w.heap.size (fun _ => True) u0_ r ∧ Below w.heap.size w w' := by
 have HR0 := Ak hr0
 have HC0 := Ak hc0
 clear hr0 hc0
 have HB := Ak (Below.refl w.heap.size w)
 have H : ((impl_areRight.f k l0).bind fun t270 => (if t270 = true then ((impl_Pt_76.f l0).bind fun t271 => ((impl_Pt_77.f k t271).bind fun t274 => ((impl_Pt_79.f k t274).bind fun t275 => (if (t275.length : Int) < 2 then ((impl_Pt_80.f t275).bind fun t278 => (some t278)) else ((impl_chainOf.f k t275).bind fun t281 => ((impl_Pt_82.f k t275).bind fun t284 => ((impl_chainOf.f k t284).bind fun t285 => (if 0 ≤ (wrap64 ((t281.length : Int) - 1)) then (if (wrap64 ((t281.length : Int) - 1)) ≤ (t281.length : Int) then (if 0 ≤ (wrap64 ((t285.length : Int) - 1)) then (if (wrap64 ((t285.length : Int) - 1)) ≤ (t285.length : Int) then ((impl_Pt_83.f k (([(t281.take ((wrap64 ((t281.length : Int) - 1)) : Int).toNat), (t285.take ((wrap64 ((t285.length : Int) - 1)) : Int).toNat)] : List (List (S67))))).bind fun t301 => (some t301)) else (none)) else (none)) else (none)) else (none))))))))) else (some ([] : List (S67))))) = some r := h
 clear h
 replace H := Option.bind_eq_some_iff.mp H
 obtain ⟨t270, A20, H⟩ := H
 have A2 := Ak A20
 clear A20
 by_cases c3 : t270 = true
 ·subst c3
  have H1 : ((impl_Pt_76.f l0).bind fun t271 => ((impl_Pt_77.f k t271).bind fun t274 => ((impl_Pt_79.f k t274).bind fun t275 => (if (t275.length : Int) < 2 then ((impl_Pt_80.f t275).bind fun t278 => (some t278)) else ((impl_chainOf.f k t275).bind fun t281 => ((impl_Pt_82.f k t275).bind fun t284 => ((impl_chainOf.f k t284).bind fun t285 => (if 0 ≤ (wrap64 ((t281.length : Int) - 1)) then (if (wrap64 ((t281.length : Int) - 1)) ≤ (t281.length : Int) then (if 0 ≤ (wrap64 ((t285.length : Int) - 1)) then (if (wrap64 ((t285.length : Int) - 1)) ≤ (t285.length : Int) then ((impl_Pt_83.f k (([(t281.take ((wrap64 ((t281.length : Int) - 1)) : Int).toNat), (t285.take ((wrap64 ((t285.length : Int) - 1)) : Int).toNat)] : List (List (S67))))).bind fun t301 => (some t301)) else (none)) else (none)) else (none)) else (none))))))))) = some r := by rw [if_pos rfl] at H; exact H
  clear H
  have H := H1
  clear H1
  replace H := Option.bind_eq_some_iff.mp H
  obtain ⟨t271, A40, H⟩ := H
  have A4 := Ak A40
  clear A40
  replace H := Option.bind_eq_some_iff.mp H
  obtain ⟨t274, A50, H⟩ := H
  have A5 := Ak A50
  clear A50
  replace H := Option.bind_eq_some_iff.mp H
  obtain ⟨t275, A60, H⟩ := H
  have A6 := Ak A60
  clear A60
  by_cases c7 : (t275.length : Int) < 2
  ·rw [if_pos c7] at H
   have c7b0 : decide ((t275.length : Int) < 2) = true := decide_eq_true c7
   have c7b1 : decide (t275.length < 2) = true := decide_eq_true (by omega)
   clear c7
   replace H := Option.bind_eq_some_iff.mp H
   obtain ⟨t278, A80, H⟩ := H
   have A8 := Ak A80
   clear A80
   obtain rfl := Option.some.inj H
   go_enter Try.func34, Try.ntmps34
   go_wp2_with (first | ((with_reducible refine gate_callee (f := 75) rfl ?_); refine goesL_ (some 7) rfl rfl Try.func75 (by kernel_rfl) rfl #[.slice A0 l0.length c0] rfl gm ?_; (with_reducible refine (impl_areRight.calls k _ _ l0 true _ ?side1 ?side2 A2.out).mono ?_); (case side1 => exact zq HR0.out); (case side2 => exact HC0.out); rintro e w9 ⟨rfl, hb⟩; refine ⟨_, rfl, ?_⟩; replace HB := Ak (below_step (bw HB.out) hb)) | ((with_reducible refine gate_callee (f := 76) rfl ?_); refine goesL_ (some 10) rfl rfl Try.func76 (by kernel_rfl) rfl #[.slice A0 l0.length c0] rfl gm ?_; (with_reducible refine (impl_Pt_76.calls _ _ l0 t271 _ ?side1 ?side2 A4.out).mono ?_); (case side1 => exact zq (Kd.C_below HR0.out HB.out)); (case side2 => exact HC0.out); rintro e w10 ⟨v272, rfl, ho0, hb⟩; refine ⟨_, rfl, ?_⟩; have HO273 := Ak (Kd.R_lower ho0 (below_size (bw HB.out))); replace HB := Ak (below_step (bw HB.out) hb); obtain ⟨Ao11, co11, eo11⟩ := Kd.R_slice HO273.out; subst eo11) | ((with_reducible refine gate_callee (f := 77) rfl ?_); refine goesL_ (some 12) rfl rfl Try.func77 (by kernel_rfl) rfl #[.slice Ao11 t271.length co11, .func (.func 78) #[] #[]] rfl gm ?_; (with_reducible refine (impl_Pt_77.calls k (fun k_ => some k_ = (.slice Ao11 t271.length co11 : Value).ownBlock) (.slice Ao11 t271.length co11) t271 t274 w _ ?side1 ?side2 A5.out).mono ?_); (case side1 => repeat (first | (with_reducible first | exact HB.out | apply below_alloc | apply pw_below_drewN | apply below_drew1) | exact HB.out)); (case side2 => exact Kd.R_tight rfl HO273.out); rintro e w12 ⟨rfl, hy0, hb, hkp⟩; refine ⟨_, rfl, ?_⟩; replace HO273 := Ak (Kd.R_reok rfl hy0 (fun k_ e_ => HO273.out.1 k_ e_)); replace HB := Ak (hb)) | ((with_reducible refine gate_callee (f := 79) rfl ?_); refine goesL_ (some 14) rfl rfl Try.func79 (by kernel_rfl) rfl #[.slice Ao11 t271.length co11] rfl gm ?_; (with_reducible refine (impl_Pt_79.calls k (fun k_ => some k_ = (.slice Ao11 t271.length co11 : Value).ownBlock) (.slice Ao11 t271.length co11) t274 t275 w _ ?side1 ?side2 A6.out).mono ?_); (case side1 => repeat (first | (with_reducible first | exact HB.out | apply below_alloc | apply pw_below_drewN | apply below_drew1) | exact HB.out)); (case side2 => exact Kd.R_tight rfl HO273.out); rintro e w13 ⟨v276, rfl, ho0, hb, hkp⟩; refine ⟨_, rfl, ?_⟩; have HO277 := Ak (Kd.R_mono (ok' := fun k_ => True) ho0 (fun k_ hk_ => trivial)); replace HB := Ak (hb); clear HO273; obtain ⟨Ao14, co14, eo14⟩ := Kd.R_slice HO277.out; subst eo14) | ((with_reducible refine gate_callee (f := 80) rfl ?_); refine goesL_ (some 19) rfl rfl Try.func80 (by kernel_rfl) rfl #[.slice Ao14 t275.length co14] rfl gm ?_; (refine (impl_Pt_80.calls (fun k_ => some k_ = (.slice Ao14 t275.length co14 : Value).ownBlock) Ao14 co14 t275 t278 w _ ?side1 ?side2 A8.out).mono ?_); (case side1 => repeat (first | (with_reducible first | exact HB.out | apply below_alloc | apply pw_below_drewN | apply below_drew1) | exact HB.out)); (case side2 => exact Kd.R_tight rfl HO277.out); rintro e w15 ⟨rfl, ht_, ⟨nd, rfl⟩⟩; refine ⟨_, rfl, ?_⟩; have HT_ := Ak ht_; clear ht_))
   go_ret
   exact ⟨_, zw, (.slice Ao14 t275.length co14), Clp_mk (Nat.le_refl _), by (rw [HT_.out]; (with_reducible repeat (first | apply Kd.R_alloc | apply Kd.R_drewN | apply Kd.R_drew)); exact Kd.R_mono HO277.out (fun _ _ => trivial)), bw HB.out⟩
  ·rw [if_neg c7] at H
   have c7b0 : decide ((t275.length : Int) < 2) = false := decide_eq_false c7
   have c7b1 : decide (t275.length < 2) = false := decide_eq_false (by omega)
   clear c7
   replace H := Option.bind_eq_some_iff.mp H
   obtain ⟨t281, A170, H⟩ := H
   have A16 := Ak A170
   clear A170
   replace H := Option.bind_eq_some_iff.mp H
   obtain ⟨t284, A180, H⟩ := H
   have A17 := Ak A180
   clear A180
   replace H := Option.bind_eq_some_iff.mp H
   obtain ⟨t285, A190, H⟩ := H
   have A18 := Ak A190
   clear A190
   obtain ⟨ji19, hji19⟩ : ∃ j_ : Int, (wrap64 ((t281.length : Int) - 1)) = j_ := ⟨_, rfl⟩
   replace H : (if 0 ≤ (ji19) then (if (ji19) ≤ (t281.length : Int) then (if 0 ≤ (wrap64 ((t285.length : Int) - 1)) then (if (wrap64 ((t285.length : Int) - 1)) ≤ (t285.length : Int) then ((impl_Pt_83.f k (([(t281.take ((ji19) : Int).toNat), (t285.take ((wrap64 ((t285.length : Int) - 1)) : Int).toNat)] : List (List (S67))))).bind fun t301 => (some t301)) else (none)) else (none)) else (none)) else (none)) = some r := by first | (rw [hji19] at H; exact H) | (simp only [hji19] at H ⊢; exact H)
   (try rw [hji19] at A2)
   (try rw [hji19] at A4)
   (try rw [hji19] at A5)
   (try rw [hji19] at A6)
   (try rw [hji19] at A16)
   (try rw [hji19] at A17)
   (try rw [hji19] at A18)
   have hji19w : (IntKind.i64.wrap ((t281.length : Int) - 1)) = ji19 := (i64_w _).trans hji19
   by_cases c20 : 0 ≤ (ji19)
   ·rw [if_pos c20] at H
    have c20b0 := eq_true c20
    have c20b1 : decide (0 ≤ (ji19)) = true := decide_eq_true c20
    clear c20
    by_cases c21 : (ji19) ≤ (t281.length : Int)
    ·rw [if_pos c21] at H
     have c21b0 := eq_true c21
     have c21b1 : decide ((ji19) ≤ (t281.length : Int)) = true := decide_eq_true c21
     clear c21
     obtain ⟨y288, hy288⟩ : ∃ y_ : List (S67), y_ = (t281.take ((ji19) : Int).toNat) := ⟨_, rfl⟩
     replace H : (if 0 ≤ (wrap64 ((t285.length : Int) - 1)) then (if (wrap64 ((t285.length : Int) - 1)) ≤ (t285.length : Int) then ((impl_Pt_83.f k (([y288, (t285.take ((wrap64 ((t285.length : Int) - 1)) : Int).toNat)] : List (List (S67))))).bind fun t301 => (some t301)) else (none)) else (none)) = some r := by first | (rw [hy288]; with_reducible exact H) | (have H2_ := (Option.bind_some _ _).symm.trans H; rw [hy288]; with_reducible exact H2_) | (have H2_ := (Option.bind_some _ _).symm.trans H; with_reducible exact H2_) | with_reducible exact H | (rw [hy288]; exact H) | exact H
     have Ny288 := Ak hy288
     clear hy288
     obtain ⟨ji22, hji22⟩ : ∃ j_ : Int, (wrap64 ((t285.length : Int) - 1)) = j_ := ⟨_, rfl⟩
     replace H : (if 0 ≤ (ji22) then (if (ji22) ≤ (t285.length : Int) then ((impl_Pt_83.f k (([y288, (t285.take ((ji22) : Int).toNat)] : List (List (S67))))).bind fun t301 => (some t301)) else (none)) else (none)) = some r := by first | (rw [hji22] at H; exact H) | (simp only [hji22] at H ⊢; exact H)
     (try rw [hji22] at A2)
     (try rw [hji22] at A4)
     (try rw [hji22] at A5)
     (try rw [hji22] at A6)
     (try rw [hji22] at A16)
     (try rw [hji22] at A17)
     (try rw [hji22] at A18)
     have hji22w : (IntKind.i64.wrap ((t285.length : Int) - 1)) = ji22 := (i64_w _).trans hji22
     by_cases c23 : 0 ≤ (ji22)
     ·rw [if_pos c23] at H
      have c23b0 := eq_true c23
      have c23b1 : decide (0 ≤ (ji22)) = true := decide_eq_true c23
      clear c23
      by_cases c24 : (ji22) ≤ (t285.length : Int)
      ·rw [if_pos c24] at H
       have c24b0 := eq_true c24
       have c24b1 : decide ((ji22) ≤ (t285.length : Int)) = true := decide_eq_true c24
       clear c24
       obtain ⟨y293, hy293⟩ : ∃ y_ : List (S67), y_ = (t285.take ((ji22) : Int).toNat) := ⟨_, rfl⟩
       replace H : ((impl_Pt_83.f k (([y288, y293] : List (List (S67))))).bind fun t301 => (some t301)) = some r := by first | (rw [hy293]; with_reducible exact H) | (have H2_ := (Option.bind_some _ _).symm.trans H; rw [hy293]; with_reducible exact H2_) | (have H2_ := (Option.bind_some _ _).symm.trans H; with_reducible exact H2_) | with_reducible exact H | (rw [hy293]; exact H) | exact H
       have Ny293 := Ak hy293
       clear hy293
       obtain ⟨y298, hy298⟩ : ∃ y_ : List (List (S67)), y_ = (([y288, y293] : List (List (S67)))) := ⟨_, rfl⟩
       replace H : ((impl_Pt_83.f k y298).bind fun t301 => (some t301)) = some r := by first | (rw [hy298]; with_reducible exact H) | (have H2_ := (Option.bind_some _ _).symm.trans H; rw [hy298]; with_reducible exact H2_) | (have H2_ := (Option.bind_some _ _).symm.trans H; with_reducible exact H2_) | with_reducible exact H | (rw [hy298]; exact H) | exact H
       have Ny298 := Ak hy298
       clear hy298
       replace H := Option.bind_eq_some_iff.mp H
       obtain ⟨t301, A260, H⟩ := H
       have A25 := Ak A260
       clear A260
       obtain rfl := Option.some.inj H
       go_enter Try.func34, Try.ntmps34
       try go_wp2_with (first | ((with_reducible refine gate_callee (f := 75) rfl ?_); refine goesL_ (some 7) rfl rfl Try.func75 (by kernel_rfl) rfl #[.slice A0 l0.length c0] rfl gm ?_; (with_reducible refine (impl_areRight.calls k _ _ l0 true _ ?side1 ?side2 A2.out).mono ?_); (case side1 => exact zq HR0.out); (case side2 => exact HC0.out); rintro e w26 ⟨rfl, hb⟩; refine ⟨_, rfl, ?_⟩; replace HB := Ak (below_step (bw HB.out) hb)) | ((with_reducible refine gate_callee (f := 76) rfl ?_); refine goesL_ (some 10) rfl rfl Try.func76 (by kernel_rfl) rfl #[.slice A0 l0.length c0] rfl gm ?_; (with_reducible refine (impl_Pt_76.calls _ _ l0 t271 _ ?side1 ?side2 A4.out).mono ?_); (case side1 => exact zq (Kd.C_below HR0.out HB.out)); (case side2 => exact HC0.out); rintro e w27 ⟨v272, rfl, ho0, hb⟩; refine ⟨_, rfl, ?_⟩; have HO273 := Ak (Kd.R_lower ho0 (below_size (bw HB.out))); replace HB := Ak (below_step (bw HB.out) hb); obtain ⟨Ao28, co28, eo28⟩ := Kd.R_slice HO273.out; subst eo28) | ((with_reducible refine gate_callee (f := 77) rfl ?_); refine goesL_ (some 12) rfl rfl Try.func77 (by kernel_rfl) rfl #[.slice Ao28 t271.length co28, .func (.func 78) #[] #[]] rfl gm ?_; (with_reducible refine (impl_Pt_77.calls k (fun k_ => some k_ = (.slice Ao28 t271.length co28 : Value).ownBlock) (.slice Ao28 t271.length co28) t271 t274 w _ ?side1 ?side2 A5.out).mono ?_); (case side1 => repeat (first | (with_reducible first | exact HB.out | apply below_alloc | apply pw_below_drewN | apply below_drew1) | exact HB.out)); (case side2 => exact Kd.R_tight rfl HO273.out); rintro e w29 ⟨rfl, hy0, hb, hkp⟩; refine ⟨_, rfl, ?_⟩; replace HO273 := Ak (Kd.R_reok rfl hy0 (fun k_ e_ => HO273.out.1 k_ e_)); replace HB := Ak (hb)) | ((with_reducible refine gate_callee (f := 79) rfl ?_); refine goesL_ (some 14) rfl rfl Try.func79 (by kernel_rfl) rfl #[.slice Ao28 t271.length co28] rfl gm ?_; (with_reducible refine (impl_Pt_79.calls k (fun k_ => some k_ = (.slice Ao28 t271.length co28 : Value).ownBlock) (.slice Ao28 t271.length co28) t274 t275 w _ ?side1 ?side2 A6.out).mono ?_); (case side1 => repeat (first | (with_reducible first | exact HB.out | apply below_alloc | apply pw_below_drewN | apply below_drew1) | exact HB.out)); (case side2 => exact Kd.R_tight rfl HO273.out); rintro e w30 ⟨v276, rfl, ho0, hb, hkp⟩; refine ⟨_, rfl, ?_⟩; have HO277 := Ak (Kd.R_mono (ok' := fun k_ => True) ho0 (fun k_ hk_ => trivial)); replace HB := Ak (hb); clear HO273; obtain ⟨Ao31, co31, eo31⟩ := Kd.R_slice HO277.out; subst eo31) | ((with_reducible refine gate_callee (f := 81) rfl ?_); refine goesL_ (some 21) rfl rfl Try.func81 (by kernel_rfl) rfl #[.slice Ao31 t275.length co31] rfl gm ?_; (with_reducible refine (impl_chainOf.calls k _ _ t275 t281 _ ?side1 ?side2 A16.out).mono ?_); (case side1 => repeat (first | exact (Kd.R_reads' HO277.out).2.2 | (with_reducible refine Kd.C_alloc ?_ _) | (with_reducible refine Kd.C_drewN ?_ _) | (with_reducible refine Kd.C_drew ?_))); (case side2 => exact (Kd.R_reads' HO277.out).2.1); rintro e w32 ⟨v282, rfl, ho0, hb⟩; refine ⟨_, rfl, ?_⟩; have HO283 := Ak (Kd.R_lower (Kd.R_new' ho0 (Kd.R_lt (rq HO277.out))) (below_size (bw HB.out))); replace HO277 := Ak (Kd.R_elder' (rq HO277.out) (Kd.R_base ho0) hb); replace HB := Ak (below_step (bw HB.out) hb)) | ((with_reducible refine gate_callee (f := 82) rfl ?_); refine goesL_ (some 23) rfl rfl Try.func82 (by kernel_rfl) rfl #[.slice Ao31 t275.length co31] rfl gm ?_; (with_reducible refine (impl_Pt_82.calls k (fun k_ => some k_ = (.slice Ao31 t275.length co31 : Value).ownBlock) (.slice Ao31 t275.length co31) t275 t284 w _ ?side1 ?side2 A17.out).mono ?_); (case side1 => repeat (first | (with_reducible first | exact HB.out | apply below_alloc | apply pw_below_drewN | apply below_drew1) | exact HB.out)); (case side2 => exact Kd.R_tight rfl HO277.out); rintro e w33 ⟨rfl, hy0, hb, hkp⟩; refine ⟨_, rfl, ?_⟩; replace HO277 := Ak (Kd.R_reok rfl hy0 (fun k_ e_ => HO277.out.1 k_ e_)); replace HO283 := Ak (Kd.R_mono (ok' := fun k_ => Nb k_ (.slice Ao31 t275.length co31)) (Kd.R_keptB (HO283.out) hkp (fun k_ hk_ hs_ => (hk_.2) hs_)) (fun k_ hk_ => hk_.1.2)); replace HB := Ak (hb)) | ((with_reducible refine gate_callee (f := 81) rfl ?_); refine goesL_ (some 25) rfl rfl Try.func81 (by kernel_rfl) rfl #[.slice Ao31 t284.length co31] rfl (by (try simp only [List.map_toArray, List.map_cons, List.map_nil]); first | done | (rw [show t284.length = t275.length from (Kd.R_reads' HO277.out).1.symm] <;> rfl) | rfl | (simp only [List.length_drop, List.length_take]; rfl)) ?_; (with_reducible refine (impl_chainOf.calls k _ _ t284 t285 _ ?side1 ?side2 A18.out).mono ?_); (case side1 => repeat (first | exact (Kd.R_reads' HO277.out).2.2 | (with_reducible refine Kd.C_alloc ?_ _) | (with_reducible refine Kd.C_drewN ?_ _) | (with_reducible refine Kd.C_drew ?_))); (case side2 => rw [show t284.length = t275.length from (Kd.R_reads' HO277.out).1.symm]; exact (Kd.R_reads' HO277.out).2.1); rintro e w34 ⟨v286, rfl, ho0, hb⟩; refine ⟨_, rfl, ?_⟩; have HO287 := Ak (Kd.R_lower (Kd.R_new' (Kd.R_new' ho0 (Kd.R_lt (rq HO277.out))) (Kd.R_lt (rq HO283.out))) (below_size (bw HB.out))); replace HO277 := Ak (Kd.R_elder' (rq HO277.out) (Kd.R_base ho0) hb); replace HO283 := Ak (Kd.R_elder' (rq HO283.out) (Kd.R_base ho0) hb); replace HB := Ak (below_step (bw HB.out) hb)))
       replace HO277 := Ak (Kd.R_drew HO277.out)
       replace HO283 := Ak (Kd.R_drew HO283.out)
       replace HO287 := Ak (Kd.R_drew HO287.out)
       replace HB := Ak (below_drew1 HB.out)
       obtain ⟨Ao36, co36, eo36⟩ := Kd.R_slice HO283.out
       (first | subst eo36 | (injection eo36 with f1_ f2_ f3_; have f4_ := f1_.symm; have f5_ := f3_.symm; clear f1_ f2_ f3_; subst f4_; subst f5_))
       have q37 : ((ji19) : Int) ≤ ((t281.length : Int) : Int) := of_decide_eq_true (by first | (with_reducible assumption) | assumption)
       obtain ⟨i037, hi037, _, hsz37, _⟩ := info_parts info67
       have hroom37 : t281.length ≤ co36 := (Kd.R_reads' HO283.out).2.1
       have hC37 : Kd.F k67 _ _ Ao36 t281.length t281 := (Kd.V_at (base := w.heap.size) (Kd.R_V HO283.out)).2.2
       have hcut37 := cut_to (P := Try.prog) 58 67 .i64 Try.underlying58 hi037 Ao36 t281.length co36 (ji19) (of_decide_eq_true (by first | (with_reducible assumption) | assumption)) q37 hroom37
       have hr37 := Kd.F_take (m := ((ji19) : Int).toNat) hC37 (by omega)
       have hy37 : y288.length = ((ji19) : Int).toNat := (by rw [Ny288.out, List.length_take]; omega)
       rw [← Ny288.out] at hr37
       rw [← hy37] at hcut37
       have HO292 := Ak (show Kd.V k67 67 _ w.heap.size _ (.slice Ao36 y288.length co36) y288 from Kd.V_mk (by omega) hr37)
       have HC292 := Ak (show y288.length ≤ co36 from by omega)
       clear hr37 hC37 hroom37 hi037 hsz37
       have KY37 := Ak hy37
       clear hy37
       replace q37 := eq_true q37
       obtain ⟨Ao38, co38, eo38⟩ := Kd.R_slice HO287.out
       (first | subst eo38 | (injection eo38 with f1_ f2_ f3_; have f4_ := f1_.symm; have f5_ := f3_.symm; clear f1_ f2_ f3_; subst f4_; subst f5_))
       have q39 : ((ji22) : Int) ≤ ((t285.length : Int) : Int) := of_decide_eq_true (by first | (with_reducible assumption) | assumption)
       obtain ⟨i039, hi039, _, hsz39, _⟩ := info_parts info67
       have hroom39 : t285.length ≤ co38 := (Kd.R_reads' HO287.out).2.1
       have hC39 : Kd.F k67 _ _ Ao38 t285.length t285 := (Kd.V_at (base := w.heap.size) (Kd.R_V HO287.out)).2.2
       have hcut39 := cut_to (P := Try.prog) 58 67 .i64 Try.underlying58 hi039 Ao38 t285.length co38 (ji22) (of_decide_eq_true (by first | (with_reducible assumption) | assumption)) q39 hroom39
       have hr39 := Kd.F_take (m := ((ji22) : Int).toNat) hC39 (by omega)
       have hy39 : y293.length = ((ji22) : Int).toNat := (by rw [Ny293.out, List.length_take]; omega)
       rw [← Ny293.out] at hr39
       rw [← hy39] at hcut39
       have HO297 := Ak (show Kd.V k67 67 _ w.heap.size _ (.slice Ao38 y293.length co38) y293 from Kd.V_mk (by omega) hr39)
       have HC297 := Ak (show y293.length ≤ co38 from by omega)
       clear hr39 hC39 hroom39 hi039 hsz39
       have KY39 := Ak hy39
       clear hy39
       replace q39 := eq_true q39
       refine start_ (n := 13) (S := fun w' => True) (ds := []) #[false, false, false, false, false, false, false, false, false, false, false, false, false] (by kernel_rfl) rfl rfl trivial (fun hHeld => ?_); refine with_tabW impl_Hull.tab11 impl_Hull.bits11 (fun HT_ HW_ => ?_)
       generalize w34.drew = w35 at HO277 HO283 HO287 HB HO292 HO297 hHeld ⊢
       refine pure_ (i := 0) (N := some 26) (v := ?_) (a' := ?_) #[true, false, false, false, false, false, false, false, false, false, false, false, false] rfl rfl (any_of HT_.out (by kernel_rfl)) (fun _ _ _ h => h) (Or.inl ⟨by rfl, ?_⟩) ?_ ?_
       rotate_left
       ·intro w'
        go_simp
        with_reducible rfl
       rotate_left
       ·simp only [Act.put, sT, sZ, sS, i64_w, i32_w]
        rfl
       refine pure_ (i := 1) (N := some 27) (v := ?_) (a' := ?_) #[true, true, false, false, false, false, false, false, false, false, false, false, false] rfl rfl (any_of HT_.out (by kernel_rfl)) (fun _ _ _ h => h) (Or.inl ⟨by rfl, ?_⟩) ?_ ?_
       rotate_left
       ·intro w'
        go_simp
        with_reducible rfl
       rotate_left
       ·simp only [Act.put, sT, sZ, sS, i64_w, i32_w]
        rfl
       refine pure_ (i := 2) (N := some 28) (v := ?_) (a' := ?_) #[true, true, true, false, false, false, false, false, false, false, false, false, false] rfl rfl (any_of HT_.out (by kernel_rfl)) (fun _ _ _ h => h) (Or.inl ⟨by rfl, ?_⟩) ?_ ?_
       rotate_left
       ·intro w'
        go_simp
        with_reducible rfl
       rotate_left
       ·simp only [Act.put, sT, sZ, sS, i64_w, i32_w]
        rfl
       refine pure_ (i := 3) (N := some 29) (v := ?_) (a' := ?_) #[true, true, true, true, false, false, false, false, false, false, false, false, false] rfl rfl (any_of HT_.out (by kernel_rfl)) (fun _ _ _ h => h) (Or.inl ⟨by rfl, ?_⟩) ?_ ?_
       rotate_left
       ·intro w'
        go_simp
        with_reducible rfl
       rotate_left
       ·simp only [Act.put, sT, sZ, sS, i64_w, i32_w]
        rfl
       refine pure_ (i := 4) (N := some 30) (v := ?_) (a' := ?_) #[true, true, true, true, true, false, false, false, false, false, false, false, false] rfl rfl (any_of HT_.out (by kernel_rfl)) (fun _ _ _ h => h) (Or.inl ⟨by rfl, ?_⟩) ?_ ?_
       rotate_left
       ·intro w'
        go_simp
        with_reducible rfl
       rotate_left
       ·simp only [Act.put, sT, sZ, sS, i64_w, i32_w]
        rfl
       refine pure_ (i := 5) (N := some 31) (v := ?_) (a' := ?_) #[true, true, true, true, true, true, false, false, false, false, false, false, false] rfl rfl (any_of HT_.out (by kernel_rfl)) (fun _ _ _ h => h) (Or.inl ⟨by rfl, ?_⟩) ?_ ?_
       rotate_left
       ·intro w'
        go_simp
        with_reducible rfl
       rotate_left
       ·simp only [Act.put, sT, sZ, sS, i64_w, i32_w]
        rfl
       refine pure_ (i := 6) (N := some 32) (v := ?_) (a' := ?_) #[true, true, true, true, true, true, true, false, false, false, false, false, false] rfl rfl (any_of HT_.out (by kernel_rfl)) (fun _ _ _ h => h) (Or.inl ⟨by rfl, ?_⟩) ?_ ?_
       rotate_left
       ·intro w'
        go_simp
        with_reducible rfl
       rotate_left
       ·simp only [Act.put, sT, sZ, sS, i64_w, i32_w]
        rfl
       refine pure_ (i := 7) (N := some 33) (v := ?_) (a' := ?_) #[true, true, true, true, true, true, true, true, false, false, false, false, false] rfl rfl (any_of HT_.out (by kernel_rfl)) (fun _ _ _ h => h) (Or.inl ⟨by rfl, ?_⟩) ?_ ?_
       rotate_left
       ·intro w'
        go_simp
        with_reducible rfl
       rotate_left
       ·simp only [Act.put, sT, sZ, sS, i64_w, i32_w]
        rfl
       refine pure_ (i := 8) (N := some 34) (v := ?_) (a' := ?_) #[true, true, true, true, true, true, true, true, true, false, false, false, false] rfl rfl (any_of HT_.out (by kernel_rfl)) (fun _ _ _ h => h) (Or.inl ⟨by rfl, ?_⟩) ?_ ?_
       rotate_left
       ·intro w'
        go_simp
        with_reducible rfl
       rotate_left
       ·simp only [Act.put, sT, sZ, sS, i64_w, i32_w]
        rfl
       refine pure_ (i := 9) (N := some 35) (v := ?_) (a' := ?_) #[true, true, true, true, true, true, true, true, true, true, false, false, false] rfl rfl (any_of HT_.out (by kernel_rfl)) (fun _ _ _ h => h) (Or.inl ⟨by rfl, ?_⟩) ?_ ?_
       rotate_left
       ·intro w'
        go_simp
        with_reducible rfl
       rotate_left
       ·simp only [Act.put, sT, sZ, sS, i64_w, i32_w]
        rfl
       refine one_ (i := 10) (N := some 36) #[true, true, true, true, true, true, true, true, true, true, true, false, false] rfl rfl (one_of HT_.out (by kernel_rfl)) (by decide) (fun K hK => ?_)
       refine Kd.N_lit_step (Kd.slice 67 k67) _ 58 ?hg (N' := 36) ?hd (xs := ([y288, y293] : List (List (S67)))) (inner := [.slice Ao36 y288.length co36, .slice Ao38 y293.length co38]) (ok := (fun k_ => Nb k_ (.slice Ao31 t275.length co31))) (okp := (fun k_ => Nb k_ (.slice Ao31 t275.length co31))) ?hr ?hp (fun _ hk => hk) ((show ∀ k_, w35.heap.size ≤ k_ → (fun k_ => Nb k_ (.slice Ao31 t275.length co31)) k_ from fun k_ hk => Kd.fresh' (Kd.R_lt (rq HO277.out)) k_ hk) _ (Nat.le_refl _)) (Below.refl _ _) (Nat.le_refl _) (by simp) ?_; (case hd => rfl); (case hg => rfl); (case hr => first | (go_simp; done) | (go_simp; rfl)); (case hp => exact (Reps.one (show Kd.FK (Kd.slice 67 k67) _ _ y288 [.slice Ao36 y288.length co36] from (Kd.FK_slice_mk (Kd.V_reads' (Kd.V_mono (ok' := (fun k_ => Nb k_ (.slice Ao31 t275.length co31))) (HO292.out) (fun k_ hk => hk.1))).2.1 (Kd.V_F (Kd.V_mono (ok' := (fun k_ => Nb k_ (.slice Ao31 t275.length co31))) (HO292.out) (fun k_ hk => hk.1))))) (Reps.one (show Kd.FK (Kd.slice 67 k67) _ _ y293 [.slice Ao38 y293.length co38] from (Kd.FK_slice_mk (Kd.V_reads' (Kd.V_mono (ok' := (fun k_ => Nb k_ (.slice Ao31 t275.length co31))) (HO297.out) (fun k_ hk => hk.1.2))).2.1 (Kd.V_F (Kd.V_mono (ok' := (fun k_ => Nb k_ (.slice Ao31 t275.length co31))) (HO297.out) (fun k_ hk => hk.1.2))))) (Reps.none _ _))))
       intro v299 w40 ho41 hb hg_ hnew_
       clear hg_ hnew_
       (first | rw [← Ny298.out] at ho41 | (simp only [Int.reduceToNat] at ho41; rw [← Ny298.out] at ho41))
       replace HO277 := Ak (Kd.R_below (rq HO277.out) hb)
       replace HO283 := Ak (Kd.R_below (rq HO283.out) hb)
       replace HO287 := Ak (Kd.R_below (rq HO287.out) hb)
       replace HO292 := Ak (Kd.V_elder' (by (with_reducible repeat (first | apply Kd.V_alloc | apply Kd.V_drewN | apply Kd.V_drew)); exact HO292.out) (Kd.N_base ho41) hb)
       replace HO297 := Ak (Kd.V_elder' (by (with_reducible repeat (first | apply Kd.V_alloc | apply Kd.V_drewN | apply Kd.V_drew)); exact HO297.out) (Kd.N_base ho41) hb)
       have HO300 := Ak (Kd.N_lower ho41 (below_size (bw HB.out)))
       replace HB := Ak (below_step (bw HB.out) hb)
       clear hb ho41
       obtain ⟨Ao42, co42, eo42⟩ := Kd.N_slice HO300.out
       (first | subst eo42 | (injection eo42 with f1_ f2_ f3_; have f4_ := f1_.symm; have f5_ := f3_.symm; clear f1_ f2_ f3_; subst f4_; subst f5_))
       refine hK.out _ _ trivial (fun hHeld => ?_)
       clear hK K
       refine norm_ (a' := ?_) ?_ ?_
       rotate_left
       ·show Act.put _ (some 36) _ = _
        simp only [Act.put, sT, sZ, sS, i64_w, i32_w]
        rfl
       refine one_ (i := 11) (N := some 37) #[true, true, true, true, true, true, true, true, true, true, true, true, false] rfl rfl (one_of HT_.out (by kernel_rfl)) (by decide) (fun K hK => ?_)
       refine goes_ Try.func83 (by kernel_rfl) rfl #[.slice Ao42 y298.length co42] (by rfl) rfl rfl gm ?_
       with_reducible refine (impl_Pt_83.calls k _ _ y298 t301 _ ?side1 ?side2 A25.out).mono ?_
       (case side1 => repeat (first | exact (Kd.N_reads' HO300.out).2.2 | (with_reducible refine Kd.C_alloc ?_ _) | (with_reducible refine Kd.C_drewN ?_ _) | (with_reducible refine Kd.C_drew ?_)))
       (case side2 => exact (Kd.N_reads' HO300.out).2.1)
       rintro e w43 ⟨v302, rfl, ho0, hb⟩
       refine ⟨_, rfl, ?_⟩
       replace HO292 := Ak (Kd.V_elder' (by (with_reducible repeat (first | apply Kd.V_alloc | apply Kd.V_drewN | apply Kd.V_drew)); exact HO292.out) (Kd.R_base ho0) hb)
       replace HO297 := Ak (Kd.V_elder' (by (with_reducible repeat (first | apply Kd.V_alloc | apply Kd.V_drewN | apply Kd.V_drew)); exact HO297.out) (Kd.R_base ho0) hb)
       replace HO300 := Ak (Kd.N_elder' (by (with_reducible repeat (first | apply Kd.N_alloc | apply Kd.N_drewN | apply Kd.N_drew)); exact HO300.out) (Kd.R_base ho0) hb)
       have HO303 := Ak (Kd.R_lower (Kd.R_new' (Kd.R_new' (Kd.R_new' ho0 (Kd.R_lt (rq HO277.out))) (Kd.R_lt (rq HO283.out))) (Kd.R_lt (rq HO287.out))) (below_size (bw HB.out)))
       replace HO277 := Ak (Kd.R_elder' (rq HO277.out) (Kd.R_base ho0) hb)
       replace HO283 := Ak (Kd.R_elder' (rq HO283.out) (Kd.R_base ho0) hb)
       replace HO287 := Ak (Kd.R_elder' (rq HO287.out) (Kd.R_base ho0) hb)
       replace HB := Ak (below_step (bw HB.out) hb)
       refine hK.out _ _ trivial (fun hHeld => ?_)
       clear hK K
       refine norm_ (a' := ?_) ?_ ?_
       rotate_left
       ·show Act.put _ (some 37) _ = _
        simp only [Act.put, sT, sZ, sS, i64_w, i32_w]
        rfl
       refine pure_ (i := 12) (N := some 2) (v := ?_) (a' := ?_) #[true, true, true, true, true, true, true, true, true, true, true, true, true] rfl rfl (any_of HT_.out (by kernel_rfl)) (fun _ _ _ h => h) (Or.inl ⟨by rfl, ?_⟩) ?_ ?_
       rotate_left
       ·intro w'
        go_simp
        with_reducible rfl
       rotate_left
       ·simp only [Act.put, sT, sZ, sS, i64_w, i32_w]
        rfl
       refine done_ (done_of HT_.out (by kernel_rfl)) ?_
       try go_wp2
       go_ret
       exact ⟨_, by first | rfl | (simp [errW_none, errW_some] <;> rfl) | (simp only [← hji19, ← hji22]; first | rfl | (simp [errW_none, errW_some] <;> rfl)) | (simp [*, errW_none, errW_some] <;> rfl), _, Clp_self HO303.out, by refine rq ?_; exact Kd.R_mono HO303.out (fun _ hk => trivial), bw HB.out⟩
      ·rw [if_neg c24] at H
       exact absurd H (by simp)
     ·rw [if_neg c23] at H
      exact absurd H (by simp)
    ·rw [if_neg c21] at H
     exact absurd H (by simp)
   ·rw [if_neg c20] at H
    exact absurd H (by simp)
 ·replace c3 := Bool.eq_false_iff.mpr c3
  subst c3
  have H1 : (some ([] : List (S67))) = some r := by rw [if_neg (show ¬ (false = true) by decide)] at H; exact H
  clear H
  have H := H1
  clear H1
  obtain rfl := Option.some.inj H
  go_enter Try.func34, Try.ntmps34
  go_wp2_with (first | ((with_reducible refine gate_callee (f := 75) rfl ?_); refine goesL_ (some 7) rfl rfl Try.func75 (by kernel_rfl) rfl #[.slice A0 l0.length c0] rfl gm ?_; (with_reducible refine (impl_areRight.calls k _ _ l0 false _ ?side1 ?side2 A2.out).mono ?_); (case side1 => exact zq HR0.out); (case side2 => exact HC0.out); rintro e w44 ⟨rfl, hb⟩; refine ⟨_, rfl, ?_⟩; replace HB := Ak (below_step (bw HB.out) hb)))
  go_ret
  exact ⟨_, zw, (.slice none 0 0), Clp_mk (Nat.le_refl _), by first | exact Kd.R_nil _ _ _ _ _ | exact Kd.N_nil _ _ _ _ _ | exact Kd.V_nil _ _ _ _ _ | exact Kd.Q_nil _ _ _ _ _ | exact Kd.S_nil _ _ _ _ _, bw HB.out⟩

end Go.Proofs.Ytgmnphckgicadaa.PFnHulls
